import PyProof.Rows.All
import Wide.All
import OpenK.AllK
import Wide.FinOn
import HandS.ForMost
import HandS.Wide
import HandS.IsInst
import HandS.Flow
import HandS.Zip
import HandS.Style
import PyProof.EqLayable
import HandS.Conv
import HandS.Exc
import HandS.ExcOwn
import HandS.WordsExc
import HandS.More
import HandS.ExcIs
import PySem.Challenge.RW_branchdepth_k75_texts_of_no_polynomial
set_option Elab.async false
set_option linter.all false
set_option maxRecDepth 100000
set_option maxHeartbeats 4000000
/-! TrSem: the tree meaning of the Python constructs. -/
namespace Tr
open PySem L2
noncomputable section
open Classical in
/-- what holds, as a truth that nothing reckons -/
def ok (p : Prop) : Bool := decide p
theorem of_ok {p : Prop} (h : ok p = true) : p := @of_decide_eq_true p (Classical.propDecidable p) h
theorem ok_of {p : Prop} (h : p) : ok p = true := @decide_eq_true p (Classical.propDecidable p) h
theorem ok_iff {p : Prop} : ok p = true ↔ p := ⟨of_ok, ok_of⟩

inductive D where
  | non
  | bl (b : Bool)
  | int (i : Int)
  | str (x : Str)
  | ty (n : String)
  | cl (n : String)
  | exc (n : String)
  | lst (xs : List D)
  | tup (xs : List D)
  | scr (ns : List Int)
  | ins (c : String) (fs : List (Str × D))

inductive Mode where | F | S | O
  deriving DecidableEq

mutual
/-- no list, no instance within -/
def D.flat : D → Bool
  | .lst _ => false
  | .scr _ => false
  | .ins _ _ => false
  | .tup xs => D.flats xs
  | _ => true
def D.flats : List D → Bool
  | [] => true
  | x :: xs => D.flat x && D.flats xs
end

structure Val where
  m : Mode
  d : D
structure Slot where
  m : Mode
  lk : Bool
  d : D
abbrev Env := List (Option Slot)
/-- what carries nothing that can change is closed -/
def nrm (m : Mode) (d : D) : Val := if d.flat then ⟨.O, d⟩ else ⟨m, d⟩
/-- what is handed in, to be looked at -/
def par (d : D) : Slot := ⟨(nrm .F d).m, false, d⟩
def kid : Mode → Mode
  | .O => .O
  | _ => .F

abbrev SE := Env → Option (Val × Env)
abbrev SB := Env → Option (Bool × Env)
abbrev SA := Env → Option (List Val × Env)
inductive Out where
  | nx (ρ : Env)
  | rt (r : Val) (ρ : Env)
  | bk (ρ : Env)
  | ct (ρ : Env)
abbrev SS := Env → Option Out

/-- the locks of ρ₀ again -/
def relock : Option Slot → Option Slot → Option Slot
  | some a, some b => some { b with lk := a.lk }
  | _, b => b
def restore : Env → Env → Env
  | a :: ρ, b :: ρ' => relock a b :: restore ρ ρ'
  | _, ρ' => ρ'
def frz1 : Option Slot → Option Slot
  | some s => if s.lk then some ⟨.F, false, s.d⟩ else some s
  | none => none
def freeze (ρ : Env) : Env := ρ.map frz1
/-- what has been locked since ρ₀ -/
def frz2 : Option Slot → Option Slot → Option Slot
  | some a, some b => if b.lk && !a.lk then some ⟨.F, false, b.d⟩ else some b
  | _, b => b
def freeze2 : Env → Env → Env
  | a :: ρ, b :: ρ' => frz2 a b :: freeze2 ρ ρ'
  | _, ρ' => ρ'

/-! ### expressions -/
def sVar (i : Nat) : SE := fun ρ =>
  match ρ[i]? with
  | some (some s) => if s.d.flat then some (⟨.O, s.d⟩, ρ) else if s.m = .F then some (⟨.F, s.d⟩, ρ) else some (⟨.F, s.d⟩, ρ.set i (some { s with lk := true }))
  | _ => none
/-- the name's last use: what it owns goes with the value -/
def sMove (i : Nat) : SE := fun ρ =>
  match ρ[i]? with
  | some (some s) => if s.d.flat then some (⟨.O, s.d⟩, ρ) else if s.m = .F then some (⟨.F, s.d⟩, ρ) else if s.lk then none else some (⟨s.m, s.d⟩, ρ.set i none)
  | _ => none
def sCon (d : D) : SE := fun ρ => some (⟨.O, d⟩, ρ)
def sealE (f : SE) : SE := fun ρ =>
  match f ρ with
  | some (r, ρ') => if r.m = .O then some (r, restore ρ ρ') else some (r, ρ')
  | none => none
def sNil : SA := fun ρ => some ([], ρ)
def sCons (f : SE) (g : SA) : SA := fun ρ =>
  match f ρ with
  | some (r, ρ1) =>
    match g ρ1 with
    | some (rs, ρ2) => some (r :: rs, ρ2)
    | none => none
  | none => none
def sApp (g : List Val → Option Val) (fs : SA) : SE := sealE fun ρ =>
  match fs ρ with
  | some (rs, ρ1) =>
    match g rs with
    | some r => some (r, ρ1)
    | none => none
  | none => none
def sApp2 (g : List Val → Option Val) (f h : SE) : SE := sApp g (sCons f (sCons h sNil))
def sApp1 (g : List Val → Option Val) (f : SE) : SE := sApp g (sCons f sNil)

/-! ### tests -/
def sTest (f : SE) : SB := fun ρ =>
  match f ρ with
  | some (⟨_, .bl b⟩, ρ1) => some (b, restore ρ ρ1)
  | _ => none
def sNot (f : SB) : SB := fun ρ =>
  match f ρ with
  | some (b, ρ1) => some (!b, ρ1)
  | none => none
def sAnd (f g : SB) : SB := fun ρ =>
  match f ρ with
  | some (true, ρ1) => g ρ1
  | some (false, ρ1) => some (false, ρ1)
  | none => none
def sOr (f g : SB) : SB := fun ρ =>
  match f ρ with
  | some (true, ρ1) => some (true, ρ1)
  | some (false, ρ1) => g ρ1
  | none => none
def sIfE (c : SB) (f g : SE) : SE := fun ρ =>
  match c ρ with
  | some (true, ρ1) => f ρ1
  | some (false, ρ1) => g ρ1
  | none => none
/-- and, or of truths as values -/
def sAndV (f g : SE) : SE := fun ρ =>
  match f ρ with
  | some (⟨_, .bl true⟩, ρ1) => g ρ1
  | some (⟨_, .bl false⟩, ρ1) => some (⟨.O, .bl false⟩, ρ1)
  | _ => none
def sOrV (f g : SE) : SE := fun ρ =>
  match f ρ with
  | some (⟨_, .bl true⟩, ρ1) => some (⟨.O, .bl true⟩, ρ1)
  | some (⟨_, .bl false⟩, ρ1) => g ρ1
  | _ => none
def sNotV (f : SE) : SE := fun ρ =>
  match f ρ with
  | some (⟨_, .bl b⟩, ρ1) => some (⟨.O, .bl (!b)⟩, ρ1)
  | _ => none

/-! ### statements -/
/-- behind a statement's value: closed, the locks are taken back; else what was looked at stays as it is -/
def settle (ρ : Env) (r : Val) (ρ1 : Env) : Env := if r.m = .O then restore ρ ρ1 else freeze2 ρ ρ1
def setSlot (ρ : Env) (i : Nat) (r : Val) : Option Env := if i < ρ.length then some (ρ.set i (some ⟨r.m, false, r.d⟩)) else none
def sDrop (f : SE) : SS := fun ρ =>
  match f ρ with
  | some (_, ρ1) => some (.nx (restore ρ ρ1))
  | none => none
def sRet (f : SE) : SS := fun ρ =>
  match f ρ with
  | some (r, ρ1) => some (.rt r ρ1)
  | none => none
def sSkip : SS := fun ρ => some (.nx ρ)
def sSeq (f g : SS) : SS := fun ρ =>
  match f ρ with
  | some (.nx ρ1) => g ρ1
  | r => r
def sIf (c : SB) (f g : SS) : SS := fun ρ =>
  match c ρ with
  | some (true, ρ1) => f ρ1
  | some (false, ρ1) => g ρ1
  | none => none
def sBreak : SS := fun ρ => some (.bk ρ)
def sCont : SS := fun ρ => some (.ct ρ)
def sNever : SS := fun _ => none
def whileF (c : SB) (b : SS) : Nat → SS
  | 0, _ => none
  | n + 1, ρ =>
    match c ρ with
    | some (false, ρ1) => some (.nx ρ1)
    | some (true, ρ1) =>
      match b ρ1 with
      | some (.nx ρ2) => whileF c b n ρ2
      | some (.ct ρ2) => whileF c b n ρ2
      | some (.bk ρ2) => some (.nx ρ2)
      | some (.rt r ρ2) => some (.rt r ρ2)
      | none => none
    | none => none
theorem whileF_succ {c : SB} {b : SS} : ∀ {n : Nat} {ρ : Env} {r : Out}, whileF c b n ρ = some r → whileF c b (n + 1) ρ = some r
  | 0, _, _, h => by cases h
  | n + 1, ρ, r, h => by
    rw [whileF] at h
    rw [whileF]
    cases e1 : c ρ with
    | none => rw [e1] at h; cases h
    | some x =>
      obtain ⟨t, ρ1⟩ := x
      rw [e1] at h
      cases t with
      | false => exact h
      | true =>
        simp only at h ⊢
        cases e2 : b ρ1 with
        | none => rw [e2] at h; cases h
        | some o =>
          rw [e2] at h
          cases o with
          | nx ρ2 => exact whileF_succ (n := n) h
          | ct ρ2 => exact whileF_succ (n := n) h
          | bk ρ2 => exact h
          | rt r ρ2 => exact h
theorem whileF_add {c : SB} {b : SS} {n : Nat} {ρ : Env} {r : Out} (h : whileF c b n ρ = some r) : ∀ k, whileF c b (n + k) ρ = some r
  | 0 => h
  | k + 1 => whileF_succ (whileF_add h k)
open Classical in
def sWhile (c : SB) (b : SS) : SS := fun ρ =>
  if h : ∃ r n, whileF c b n ρ = some r then some (choose h) else none
theorem sWhile_iff {c : SB} {b : SS} {ρ : Env} {r : Out} : sWhile c b ρ = some r ↔ ∃ n, whileF c b n ρ = some r := by
  unfold sWhile
  constructor
  · intro h
    split at h
    · rename_i q
      cases h
      exact Classical.choose_spec q
    · cases h
  · rintro ⟨n, h⟩
    have q : ∃ r n, whileF c b n ρ = some r := ⟨r, n, h⟩
    rw [dif_pos q]
    obtain ⟨m, hm⟩ := Classical.choose_spec q
    have e1 := whileF_add h m
    have e2 := whileF_add hm n
    rw [Nat.add_comm m n, e1] at e2
    exact e2.symm

abbrev STg := Val → Env → Option Env
def sGName (i : Nat) : STg := fun r ρ => setSlot ρ i r
def sGNil : List D → Mode → Env → Option Env
  | [], _, ρ => some ρ
  | _ :: _, _, _ => none
def sGCons (g : STg) (gs : List D → Mode → Env → Option Env) : List D → Mode → Env → Option Env
  | d :: ds, m, ρ =>
    match g (nrm m d) ρ with
    | some ρ1 => gs ds m ρ1
    | none => none
  | [], _, _ => none
def sGTup (gs : List D → Mode → Env → Option Env) : STg := fun r ρ =>
  match r.d with
  | .tup ds => gs ds r.m ρ
  | _ => none
def sAsg (g : STg) (f : SE) : SS := fun ρ =>
  match f ρ with
  | some (r, ρ1) =>
    match g r (settle ρ r ρ1) with
    | some ρ2 => some (.nx ρ2)
    | none => none
  | none => none
def sSet (i : Nat) (f : SE) : SS := sAsg (sGName i) f
def allO : List Val → Bool
  | [] => true
  | r :: rs => decide (r.m = .O) && allO rs
def sPar (i j : Nat) (fs : SA) : SS := fun ρ =>
  match fs ρ with
  | some ([r, r2], ρ1) =>
    match setSlot (if allO [r, r2] then restore ρ ρ1 else freeze2 ρ ρ1) i r with
    | some ρ2 =>
      match setSlot ρ2 j r2 with
      | some ρ3 => some (.nx ρ3)
      | none => none
    | none => none
  | _ => none
/-- the items that a for walks -/
abbrev SI := Env → Option (List D × Env)
def iSq (f : SE) : SI := fun ρ =>
  match f ρ with
  | some (r, ρ1) =>
    match r.d with
    | .lst ds => some (ds, ρ1)
    | .tup ds => some (ds, ρ1)
    | _ => none
  | none => none
def enumL : Nat → List D → List D
  | _, [] => []
  | n, d :: ds => .tup [.int n, d] :: enumL (n + 1) ds
def zipL : List D → List D → List D
  | d :: ds, e :: es => .tup [d, e] :: zipL ds es
  | _, _ => []
def iEnu (fs : SA) : SI := fun ρ =>
  match fs ρ with
  | some ([r], ρ1) =>
    match r.d with
    | .lst ds => some (enumL 0 ds, ρ1)
    | _ => none
  | _ => none
def iZp (fs : SA) : SI := fun ρ =>
  match fs ρ with
  | some ([r, r2], ρ1) =>
    match r.d, r2.d with
    | .lst ds, .lst es => some (zipL ds es, ρ1)
    | .tup ds, .tup es => some (zipL ds es, ρ1)
    | _, _ => none
  | _ => none
def iRvs (fs : SA) : SI := fun ρ =>
  match fs ρ with
  | some ([r], ρ1) =>
    match r.d with
    | .lst ds => some (ds.reverse, ρ1)
    | _ => none
  | _ => none
def forGo (g : STg) (b : SS) : List D → SS
  | [], ρ => some (.nx ρ)
  | d :: ds, ρ =>
    match g (nrm .F d) ρ with
    | some ρ1 =>
      match b ρ1 with
      | some (.nx ρ2) => forGo g b ds ρ2
      | some (.ct ρ2) => forGo g b ds ρ2
      | some (.bk ρ2) => some (.nx ρ2)
      | some (.rt r ρ2) => some (.rt r ρ2)
      | none => none
    | none => none
/-- what is walked stays as it is from here on -/
def sFor (src : SI) (g : STg) (b : SS) : SS := fun ρ =>
  match src ρ with
  | some (ds, ρ1) => forGo g b ds (freeze2 ρ ρ1)
  | none => none
def small (i : Int) : Bool := ok (-(2 ^ 62) ≤ i ∧ i < 2 ^ 62)
def up (lo : Int) (n : Nat) : List D := (List.range n).map fun (k : Nat) => .int (lo + (k : Int))
def down (lo : Int) (n : Nat) : List D := (List.range n).map fun (k : Nat) => .int (lo - (k : Int))
def iRange1 (fs : SA) : SI := fun ρ =>
  match fs ρ with
  | some ([⟨_, .int j⟩], ρ1) => if small j then some (up 0 j.toNat, ρ1) else none
  | _ => none
def iRange2 (fs : SA) : SI := fun ρ =>
  match fs ρ with
  | some ([⟨_, .int i⟩, ⟨_, .int j⟩], ρ1) => if small i && small j then some (up i (j - i).toNat, ρ1) else none
  | _ => none
def step (lo c : Int) (n : Nat) : List D := (List.range n).map fun (k : Nat) => .int (lo + (k : Int) * c)
/-- range(i, j, c) -/
def iRange3 (fs : SA) : SI := fun ρ =>
  match fs ρ with
  | some ([⟨_, .int i⟩, ⟨_, .int j⟩, ⟨_, .int c⟩], ρ1) => if ok (c ≠ 0 ∧ c.natAbs < 1073741824 ∧ PySem.Builtin.Range.small i j c = true) then some (step i c (PySem.Builtin.Range.rangeSize i j c).toNat, ρ1) else none
  | _ => none
/-- a comprehension's block: es keep what they own, ls are looked at, vs are the block's own -/
def view1 : Option Slot → Option Slot
  | some s => some (par s.d)
  | none => none
def hide (ls es vs : List Nat) (ρ : Env) : Env := ρ.mapIdx fun i s => if vs.contains i then none else if es.contains i then s else if ls.contains i then view1 s else none
def wipeE (vs : List Nat) (ρ : Env) : Env := ρ.mapIdx fun i s => if vs.contains i then none else s
/-- behind it -/
def lock1 : Option Slot → Option Slot
  | some s => some (if s.m = .F then s else { s with lk := true })
  | none => none
def unhide (ls es vs : List Nat) (ρ ρb : Env) : Env := ρ.mapIdx fun i s => if vs.contains i then s else if es.contains i then (ρb[i]?).getD none else if ls.contains i then lock1 s else s
/-- the slots that a block may change own all they hold -/
def esOk (es vs : List Nat) (ρ : Env) : Bool := es.all fun i => vs.contains i || (match ρ[i]? with | some (some s) => decide (s.m = .O) && !s.lk | _ => false)
def lcGo (g : STg) (t : SB) (f : SE) (vs : List Nat) : List D → Env → List Val → Option (List Val × Env)
  | [], ρ, acc => some (acc, ρ)
  | d :: ds, ρ, acc =>
    match g (nrm .F d) ρ with
    | some ρ1 =>
      match t ρ1 with
      | some (true, ρ2) =>
        match f ρ2 with
        | some (r, ρ3) => if ok (acc.length < sizeLine) then lcGo g t f vs ds (wipeE vs (settle ρ2 r ρ3)) (acc ++ [r]) else none
        | none => none
      | some (false, ρ2) => lcGo g t f vs ds (wipeE vs ρ2) acc
      | none => none
    | none => none
def sLc (ls es vs : List Nat) (src : SI) (g : STg) (t : SB) (f : SE) : SE := sealE fun ρ =>
  match src ρ with
  | some (ds1, ρ1) =>
    if esOk es vs ρ1 then
      match lcGo g t f vs ds1 (hide ls es vs ρ1) [] with
      | some (rs, ρ2) => if esOk es vs ρ2 then some (if allO rs then ⟨.O, .lst (rs.map fun (x : Val) => x.d)⟩ else ⟨.S, .lst (rs.map fun (x : Val) => x.d)⟩, unhide ls es vs ρ1 ρ2) else none
      | none => none
    else none
  | none => none
/-- a < b <= c and its like, of ints -/
def sChain (p q : Int → Int → Bool) (f g h : SE) : SE := fun ρ =>
  match f ρ with
  | some (⟨_, .int a⟩, ρ1) =>
    match g ρ1 with
    | some (⟨_, .int b⟩, ρ2) =>
      if p a b then
        match h ρ2 with
        | some (⟨_, .int c⟩, ρ3) => some (⟨.O, .bl (q b c)⟩, ρ3)
        | _ => none
      else some (⟨.O, .bl false⟩, ρ2)
    | _ => none
  | _ => none
def sYes : SB := fun ρ => some (true, ρ)
/-- a def by its body -/
def fnSem (np n : Nat) (b : SS) : List D → Option Val := fun ds =>
  if ds.length = np then
    match b (ds.map (fun d => some (par d)) ++ List.replicate (n - ds.length) none) with
    | some (.rt r _) => some r
    | some (.nx _) => some ⟨.O, .non⟩
    | _ => none
  else none
/-- what a call of a def gives, from values -/
def opFn (g : List D → Option Val) : List Val → Option Val := fun rs => g (rs.map (·.d))

/-! ### values -/
def allS : List Val → Bool
  | [] => true
  | r :: rs => (decide (r.m = .S) || r.d.flat) && allS rs
def ds (rs : List Val) : List D := rs.map fun (x : Val) => x.d
/-- a new list of such items -/
def mkL (xs : List D) : Val := ⟨if D.flats xs then .O else .S, .lst xs⟩
/-- together below a million bits -/
def bitOk (a b : Int) : Bool := ok (a.natAbs.log2 + b.natAbs.log2 < 1000000)
def divOk (b : Int) : Bool := ok (b ≠ 0 ∧ b.natAbs.log2 < 9000)
def opAdd : List Val → Option Val
  | [⟨_, .int a⟩, ⟨_, .int b⟩] => some ⟨.O, .int (a + b)⟩
  | [⟨_, .str a⟩, ⟨_, .str b⟩] => if ok (a.length + b.length ≤ sizeLine) then some ⟨.O, .str (a ++ b)⟩ else none
  | [⟨_, .lst a⟩, ⟨_, .lst b⟩] => if ok (a.length + b.length ≤ sizeLine) then some (mkL (a ++ b)) else none
  | _ => none
def opSub : List Val → Option Val
  | [⟨_, .int a⟩, ⟨_, .int b⟩] => some ⟨.O, .int (a - b)⟩
  | _ => none
def opMul : List Val → Option Val
  | [⟨_, .int a⟩, ⟨_, .int b⟩] => if bitOk a b then some ⟨.O, .int (a * b)⟩ else none
  | [⟨_, .lst a⟩, ⟨_, .int k⟩] => if ok (-(2 ^ 63) ≤ k ∧ k < 2 ^ 63 ∧ a.length * k.toNat ≤ sizeLine) then some (mkL (List.replicate k.toNat a).flatten) else none
  | _ => none
def opMod : List Val → Option Val
  | [⟨_, .int a⟩, ⟨_, .int b⟩] => if b = 0 then none else some ⟨.O, .int (a.fmod b)⟩
  | _ => none
def opDiv : List Val → Option Val
  | [⟨_, .int a⟩, ⟨_, .int b⟩] => if divOk b then some ⟨.O, .int (a.fdiv b)⟩ else none
  | _ => none
def opPow : List Val → Option Val
  | [⟨_, .int a⟩, ⟨_, .int b⟩] => if ok (0 ≤ b ∧ b ≤ 1000000 ∧ a.natAbs < 2 ^ 64) then some ⟨.O, .int (a ^ b.toNat)⟩ else none
  | _ => none
def opNeg : List Val → Option Val
  | [⟨_, .int a⟩] => some ⟨.O, .int (-a)⟩
  | _ => none
def opCmp (p : Int → Int → Bool) : List Val → Option Val
  | [⟨_, .int a⟩, ⟨_, .int b⟩] => some ⟨.O, .bl (p a b)⟩
  | _ => none
def opLt := opCmp fun a b => decide (a < b)
def opLe := opCmp fun a b => decide (a ≤ b)
def opGt := opCmp fun a b => decide (b < a)
def opGe := opCmp fun a b => decide (b ≤ a)
mutual
def D.py : D → PyData
  | .non => .none
  | .bl b => .bool b
  | .int i => .int i
  | .str x => .str x
  | .ty _ => .none
  | .cl _ => .none
  | .exc _ => .none
  | .lst xs => .list (D.pys xs)
  | .tup xs => .tuple (D.pys xs)
  | .scr ns => .list (ns.map PyData.int)
  | .ins _ _ => .none
def D.pys : List D → List PyData
  | [] => []
  | x :: xs => D.py x :: D.pys xs
end
mutual
/-- data alone -/
def D.plain : D → Bool
  | .ins _ _ => false
  | .ty _ => false
  | .cl _ => false
  | .exc _ => false
  | .lst xs => D.plains xs
  | .tup xs => D.plains xs
  | _ => true
def D.plains : List D → Bool
  | [] => true
  | x :: xs => D.plain x && D.plains xs
end
def pyOk (d : D) : Bool := d.plain && PySem.SeqAt.shaped d.py
def opEq : List Val → Option Val
  | [a, b] => if pyOk a.d && pyOk b.d then some ⟨.O, .bl (PyData.eqv a.d.py b.d.py)⟩ else none
  | _ => none
def opNe : List Val → Option Val
  | [a, b] => if pyOk a.d && pyOk b.d then some ⟨.O, .bl (!PyData.eqv a.d.py b.d.py)⟩ else none
  | _ => none
def D.isNon : D → Bool
  | .non => true
  | _ => false
def opIsN : List Val → Option Val
  | [a, ⟨_, .non⟩] => some ⟨.O, .bl a.d.isNon⟩
  | _ => none
def opNotN : List Val → Option Val
  | [a, ⟨_, .non⟩] => some ⟨.O, .bl (!a.d.isNon)⟩
  | _ => none
def opIsB : List Val → Option Val
  | [⟨_, .bl a⟩, ⟨_, .bl b⟩] => some ⟨.O, .bl (decide (a = b))⟩
  | _ => none
def opNotB : List Val → Option Val
  | [⟨_, .bl a⟩, ⟨_, .bl b⟩] => some ⟨.O, .bl (!decide (a = b))⟩
  | _ => none
def opTup : List Val → Option Val := fun rs =>
  if ok (rs.length ≤ sizeLine) then some (if allO rs then ⟨.O, .tup (ds rs)⟩ else if allS rs then ⟨.S, .tup (ds rs)⟩ else ⟨.F, .tup (ds rs)⟩) else none
def opLst : List Val → Option Val := fun rs =>
  if ok (rs.length ≤ sizeLine) then some (if allO rs then ⟨.O, .lst (ds rs)⟩ else ⟨.S, .lst (ds rs)⟩) else none
def kidL : Mode → Mode
  | .O => .O
  | _ => .F
def opIdx : List Val → Option Val
  | [⟨m, .lst xs⟩, ⟨_, .int i⟩] => (atI xs i).map fun d => nrm (kidL m) d
  | [⟨m, .tup xs⟩, ⟨_, .int i⟩] => (atI xs i).map fun d => nrm m d
  | [⟨_, .scr xs⟩, ⟨_, .int i⟩] => (atI xs i).map fun d => ⟨.O, .int d⟩
  | [⟨_, .str z⟩, ⟨_, .int i⟩] => if ok (z.length ≤ sizeLine) then (atI z.cps.toList i).map fun c => ⟨.O, .str ⟨#[c]⟩⟩ else none
  | _ => none
def cut {α : Type} (xs : List α) (lo hi : Option Int) : List α := (xs.drop (HT.sIx xs.length 0 lo)).take (HT.sIx xs.length xs.length hi - HT.sIx xs.length 0 lo)
def sONone : Env → Option (Option Int × Env) := fun ρ => some (none, ρ)
def sOSome (f : SE) : Env → Option (Option Int × Env) := fun ρ =>
  match f ρ with
  | some (⟨_, .int i⟩, ρ1) => some (some i, restore ρ ρ1)
  | _ => none
def sCut (f : SE) (l u : Env → Option (Option Int × Env)) : SE := sealE fun ρ =>
  match f ρ with
  | some (r, ρ1) =>
    match l ρ1 with
    | some (lo, ρ2) =>
      match u ρ2 with
      | some (hi, ρ3) =>
        match r.d with
        | .lst xs => some (mkL (cut xs lo hi), ρ3)
        | _ => none
      | none => none
    | none => none
  | none => none
def opLen : List Val → Option Val
  | [⟨_, .lst xs⟩] => some ⟨.O, .int xs.length⟩
  | [⟨_, .tup xs⟩] => some ⟨.O, .int xs.length⟩
  | [⟨_, .scr xs⟩] => some ⟨.O, .int xs.length⟩
  | [⟨_, .str z⟩] => if ok (z.length ≤ sizeLine) then some ⟨.O, .int z.length⟩ else none
  | _ => none
def opAbs : List Val → Option Val
  | [⟨_, .int a⟩] => some ⟨.O, .int (if a < 0 then -a else a)⟩
  | _ => none
def opMax2 : List Val → Option Val
  | [⟨_, .int a⟩, ⟨_, .int b⟩] => some ⟨.O, .int (if b > a then b else a)⟩
  | _ => none
def opMin2 : List Val → Option Val
  | [⟨_, .int a⟩, ⟨_, .int b⟩] => some ⟨.O, .int (if b < a then b else a)⟩
  | _ => none
def opInt : List Val → Option Val
  | [⟨_, .int a⟩] => some ⟨.O, .int a⟩
  | [⟨_, .bl b⟩] => some ⟨.O, .int (if b then 1 else 0)⟩
  | _ => none
def opList : List Val → Option Val
  | [⟨_, .lst xs⟩] => some (mkL xs)
  | [⟨_, .tup xs⟩] => some (mkL xs)
  | _ => none
def D.tyName : D → Option String
  | .non => some "NoneType"
  | .bl _ => some "bool"
  | .int _ => some "int"
  | .str _ => some "str"
  | .lst _ => some "list"
  | .scr _ => some "list"
  | .tup _ => some "tuple"
  | _ => none
def opIsi : List Val → Option Val
  | [a, ⟨_, .ty n⟩] => (a.d.tyName.bind fun t => kitB t n).map fun b => ⟨.O, .bl b⟩
  | _ => none
def bls? : List D → Option (List Bool)
  | [] => some []
  | .bl b :: r => (bls? r).map (b :: ·)
  | _ :: _ => none
def ints? : List D → Option (List Int)
  | [] => some []
  | .int b :: r => (ints? r).map (b :: ·)
  | _ :: _ => none
def opAll : List Val → Option Val
  | [⟨_, .lst xs⟩] => (bls? xs).map fun bs => ⟨.O, .bl (bs.all id)⟩
  | _ => none
def opAny : List Val → Option Val
  | [⟨_, .lst xs⟩] => (bls? xs).map fun bs => ⟨.O, .bl (bs.any id)⟩
  | _ => none
def opSum : List Val → Option Val
  | [⟨_, .lst xs⟩] => (ints? xs).map fun bs => ⟨.O, .int bs.sum⟩
  | _ => none
def leastI : List Int → Int
  | [] => 0
  | [x] => x
  | x :: y :: r => min x (leastI (y :: r))
def mostI : List Int → Int
  | [] => 0
  | [x] => x
  | x :: y :: r => max x (mostI (y :: r))
def opMinL : List Val → Option Val
  | [⟨_, .lst xs⟩] => (ints? xs).bind fun bs => if bs.isEmpty then none else some ⟨.O, .int (leastI bs)⟩
  | _ => none
def opMaxL : List Val → Option Val
  | [⟨_, .lst xs⟩] => (ints? xs).bind fun bs => if bs.isEmpty then none else some ⟨.O, .int (mostI bs)⟩
  | _ => none
def D.atom : D → Bool
  | .non => true
  | .bl _ => true
  | .int _ => true
  | .str _ => true
  | _ => false
def opIn (neg : Bool) : List Val → Option Val
  | [a, ⟨_, .lst xs⟩] => if a.d.atom && xs.all D.atom then some ⟨.O, .bl (xor neg (xs.any fun y => PyData.eqv y.py a.d.py))⟩ else none
  | [a, ⟨_, .tup xs⟩] => if a.d.atom && xs.all D.atom then some ⟨.O, .bl (xor neg (xs.any fun y => PyData.eqv y.py a.d.py))⟩ else none
  | _ => none
end
end Tr

/-! TrRep: how trees stand in the heap; states; what a step may change. -/
namespace Tr
open PySem L2

structure Wd where
  K : PySem.W.Frag
  cls : String → Addr
  pin : Nat → Bool
/-- no slot is pinned -/
abbrev W0 (K : PySem.W.Frag) (c : String → Addr) : Wd := ⟨K, c, fun _ => false⟩

def Mutb : HO → Prop
  | .lst _ => True
  | .ins _ _ _ => True
  | _ => False

mutual
inductive Rep (W : Wd) (H G : Hp) : Mode → D → V → List Addr → Prop
  | non (m : Mode) : Rep W H G m .non .non []
  | bl (m : Mode) (b : Bool) : Rep W H G m (.bl b) (.bl b) []
  | int (m : Mode) (i : Int) : Rep W H G m (.int i) (.int i) []
  | str (m : Mode) (x : Str) : Rep W H G m (.str x) (.str x) []
  | ty (m : Mode) (n : String) : Rep W H G m (.ty n) (.ty n) []
  | cl (m : Mode) (n : String) : Rep W H G m (.cl n) (.ref (W.cls n)) []
  | exc (m : Mode) (n : String) : Rep W H G m (.exc n) (.ref (W.cls "!")) []
  | tup {m : Mode} {a : Addr} {vs : List V} {ds : List D} {A : List Addr} : SqT W.K H a vs → Reps W H G m ds vs A → Rep W H G m (.tup ds) (.ref a) A
  | lstF {a : Addr} {vs : List V} {ds : List D} : G a = some (.lst vs) → Reps W H G .F ds vs [] → Rep W H G .F (.lst ds) (.ref a) []
  | lstS {a : Addr} {vs : List V} {ds : List D} : H a = some (.lst vs) → Reps W H G .F ds vs [] → Rep W H G .S (.lst ds) (.ref a) [a]
  | lstO {a : Addr} {vs : List V} {ds : List D} {A : List Addr} : H a = some (.lst vs) → Reps W H G .O ds vs A → Rep W H G .O (.lst ds) (.ref a) (a :: A)
  | scr {a : Addr} {ns : List Int} : SqL W.K G a (ns.map V.int) → Rep W H G .F (.scr ns) (.ref a) []
  | insF {a : Addr} {c : String} {dx : Addr} {gs : List (Str × V)} {fs : List (Str × D)} : G a = some (.ins (W.cls c) dx gs) → Repf W H G .F fs gs [] → Rep W H G .F (.ins c fs) (.ref a) []
  | insS {a : Addr} {c : String} {dx : Addr} {gs : List (Str × V)} {fs : List (Str × D)} : H a = some (.ins (W.cls c) dx gs) → Repf W H G .F fs gs [] → Rep W H G .S (.ins c fs) (.ref a) [a]
  | insO {a : Addr} {c : String} {dx : Addr} {gs : List (Str × V)} {fs : List (Str × D)} {A : List Addr} : H a = some (.ins (W.cls c) dx gs) → Repf W H G .O fs gs A → Rep W H G .O (.ins c fs) (.ref a) (a :: A)
inductive Reps (W : Wd) (H G : Hp) : Mode → List D → List V → List Addr → Prop
  | nil (m : Mode) : Reps W H G m [] [] []
  | cons {m : Mode} {d : D} {ds : List D} {v : V} {vs : List V} {A B : List Addr} : Rep W H G m d v A → Reps W H G m ds vs B → Reps W H G m (d :: ds) (v :: vs) (A ++ B)
inductive Repf (W : Wd) (H G : Hp) : Mode → List (Str × D) → List (Str × V) → List Addr → Prop
  | nil (m : Mode) : Repf W H G m [] [] []
  | cons {m : Mode} {n : Str} {d : D} {ds : List (Str × D)} {v : V} {vs : List (Str × V)} {A B : List Addr} : Rep W H G m d v A → Repf W H G m ds vs B → Repf W H G m ((n, d) :: ds) ((n, v) :: vs) (A ++ B)
end

section
variable {W : Wd} {H G H' G' : Hp}
mutual
theorem Rep.mono (hK : ∀ a vs, SqT W.K H a vs → SqT W.K H' a vs) (hG : Same G G') : ∀ {m : Mode} {d : D} {v : V} {A : List Addr}, Rep W H G m d v A → (∀ a ∈ A, ∀ o, H a = some o → H' a = some o) → Rep W H' G' m d v A
  | _, _, _, _, .non m, _ => .non m
  | _, _, _, _, .bl m b, _ => .bl m b
  | _, _, _, _, .int m b, _ => .int m b
  | _, _, _, _, .str m b, _ => .str m b
  | _, _, _, _, .ty m b, _ => .ty m b
  | _, _, _, _, .cl m b, _ => .cl m b
  | _, _, _, _, .exc m b, _ => .exc m b
  | _, _, _, _, .tup h r, k => .tup (hK _ _ h) (Reps.mono hK hG r k)
  | _, _, _, _, .lstF h r, k => .lstF (hG _ _ h) (Reps.mono hK hG r fun _ z => nomatch z)
  | _, _, _, _, .lstS h r, k => .lstS (k _ (by simp) _ h) (Reps.mono hK hG r fun _ z => nomatch z)
  | _, _, _, _, .lstO h r, k => .lstO (k _ (by simp) _ h) (Reps.mono hK hG r fun a z => k a (List.mem_cons_of_mem _ z))
  | _, _, _, _, .scr h, _ => .scr (hG.seq h)
  | _, _, _, _, .insF h r, k => .insF (hG _ _ h) (Repf.mono hK hG r fun _ z => nomatch z)
  | _, _, _, _, .insS h r, k => .insS (k _ (by simp) _ h) (Repf.mono hK hG r fun _ z => nomatch z)
  | _, _, _, _, .insO h r, k => .insO (k _ (by simp) _ h) (Repf.mono hK hG r fun a z => k a (List.mem_cons_of_mem _ z))
theorem Reps.mono (hK : ∀ a vs, SqT W.K H a vs → SqT W.K H' a vs) (hG : Same G G') : ∀ {m : Mode} {d : List D} {v : List V} {A : List Addr}, Reps W H G m d v A → (∀ a ∈ A, ∀ o, H a = some o → H' a = some o) → Reps W H' G' m d v A
  | _, _, _, _, .nil m, _ => .nil m
  | _, _, _, _, .cons h r, k => .cons (Rep.mono hK hG h fun a z => k a (List.mem_append_left _ z)) (Reps.mono hK hG r fun a z => k a (List.mem_append_right _ z))
theorem Repf.mono (hK : ∀ a vs, SqT W.K H a vs → SqT W.K H' a vs) (hG : Same G G') : ∀ {m : Mode} {d : List (Str × D)} {v : List (Str × V)} {A : List Addr}, Repf W H G m d v A → (∀ a ∈ A, ∀ o, H a = some o → H' a = some o) → Repf W H' G' m d v A
  | _, _, _, _, .nil m, _ => .nil m
  | _, _, _, _, .cons h r, k => .cons (Rep.mono hK hG h fun a z => k a (List.mem_append_left _ z)) (Repf.mono hK hG r fun a z => k a (List.mem_append_right _ z))
end
mutual
theorem Rep.own : ∀ {m : Mode} {d : D} {v : V} {A : List Addr}, Rep W H G m d v A → ∀ a ∈ A, ∃ o, H a = some o ∧ Mutb o
  | _, _, _, _, .non _ => fun _ z => nomatch z
  | _, _, _, _, .bl _ _ => fun _ z => nomatch z
  | _, _, _, _, .int _ _ => fun _ z => nomatch z
  | _, _, _, _, .str _ _ => fun _ z => nomatch z
  | _, _, _, _, .ty _ _ => fun _ z => nomatch z
  | _, _, _, _, .cl _ _ => fun _ z => nomatch z
  | _, _, _, _, .exc _ _ => fun _ z => nomatch z
  | _, _, _, _, .tup h r => fun a z => Reps.own r a z
  | _, _, _, _, .lstF _ _ => fun _ z => nomatch z
  | _, _, _, _, .scr _ => fun _ z => nomatch z
  | _, _, _, _, .insF _ _ => fun _ z => nomatch z
  | _, _, _, _, .lstS h r => fun a z => by
    rw [List.mem_singleton] at z
    subst z
    exact ⟨_, h, trivial⟩
  | _, _, _, _, .lstO h r => fun a z => by
    rcases List.mem_cons.mp z with z | z
    · subst z
      exact ⟨_, h, trivial⟩
    · exact Reps.own r a z
  | _, _, _, _, .insS h r => fun a z => by
    rw [List.mem_singleton] at z
    subst z
    exact ⟨_, h, trivial⟩
  | _, _, _, _, .insO h r => fun a z => by
    rcases List.mem_cons.mp z with z | z
    · subst z
      exact ⟨_, h, trivial⟩
    · exact Repf.own r a z
theorem Reps.own : ∀ {m : Mode} {d : List D} {v : List V} {A : List Addr}, Reps W H G m d v A → ∀ a ∈ A, ∃ o, H a = some o ∧ Mutb o
  | _, _, _, _, .nil _ => fun _ z => nomatch z
  | _, _, _, _, .cons h r => fun a z => (List.mem_append.mp z).elim (Rep.own h a) (Reps.own r a)
theorem Repf.own : ∀ {m : Mode} {d : List (Str × D)} {v : List (Str × V)} {A : List Addr}, Repf W H G m d v A → ∀ a ∈ A, ∃ o, H a = some o ∧ Mutb o
  | _, _, _, _, .nil _ => fun _ z => nomatch z
  | _, _, _, _, .cons h r => fun a z => (List.mem_append.mp z).elim (Rep.own h a) (Repf.own r a)
end
mutual
/-- what is closed leans on no frozen object -/
theorem Rep.anyG : ∀ {m : Mode} {d : D} {v : V} {A : List Addr}, Rep W H G m d v A → m = .O → Rep W H G' m d v A
  | _, _, _, _, .non m, _ => .non m
  | _, _, _, _, .bl m b, _ => .bl m b
  | _, _, _, _, .int m b, _ => .int m b
  | _, _, _, _, .str m b, _ => .str m b
  | _, _, _, _, .ty m b, _ => .ty m b
  | _, _, _, _, .cl m b, _ => .cl m b
  | _, _, _, _, .exc m b, _ => .exc m b
  | _, _, _, _, .tup h r, k => .tup h (Reps.anyG r k)
  | _, _, _, _, .lstO h r, k => .lstO h (Reps.anyG r k)
  | _, _, _, _, .insO h r, k => .insO h (Repf.anyG r k)
  | _, _, _, _, .lstF h r, k => nomatch k
  | _, _, _, _, .lstS h r, k => nomatch k
  | _, _, _, _, .scr h, k => nomatch k
  | _, _, _, _, .insF h r, k => nomatch k
  | _, _, _, _, .insS h r, k => nomatch k
theorem Reps.anyG : ∀ {m : Mode} {d : List D} {v : List V} {A : List Addr}, Reps W H G m d v A → m = .O → Reps W H G' m d v A
  | _, _, _, _, .nil m, _ => .nil m
  | _, _, _, _, .cons h r, k => .cons (Rep.anyG h k) (Reps.anyG r k)
theorem Repf.anyG : ∀ {m : Mode} {d : List (Str × D)} {v : List (Str × V)} {A : List Addr}, Repf W H G m d v A → m = .O → Repf W H G' m d v A
  | _, _, _, _, .nil m, _ => .nil m
  | _, _, _, _, .cons h r, k => .cons (Rep.anyG h k) (Repf.anyG r k)
end
mutual
/-- flat things: any mode, any frozen heap, nothing owned -/
theorem Rep.flat : ∀ {m : Mode} {d : D} {v : V} {A : List Addr}, Rep W H G m d v A → d.flat = true → A = [] ∧ ∀ m' G', Rep W H G' m' d v []
  | _, _, _, _, .non m, _ => ⟨rfl, fun m' _ => .non m'⟩
  | _, _, _, _, .bl m b, _ => ⟨rfl, fun m' _ => .bl m' b⟩
  | _, _, _, _, .int m b, _ => ⟨rfl, fun m' _ => .int m' b⟩
  | _, _, _, _, .str m b, _ => ⟨rfl, fun m' _ => .str m' b⟩
  | _, _, _, _, .ty m b, _ => ⟨rfl, fun m' _ => .ty m' b⟩
  | _, _, _, _, .cl m b, _ => ⟨rfl, fun m' _ => .cl m' b⟩
  | _, _, _, _, .exc m b, _ => ⟨rfl, fun m' _ => .exc m' b⟩
  | _, _, _, _, .tup h r, k => by
    obtain ⟨e, q⟩ := Reps.flat r (by rw [D.flat] at k; exact k)
    exact ⟨e, fun m' G' => .tup h (q m' G')⟩
  | _, _, _, _, .lstF h r, k => by rw [D.flat] at k; cases k
  | _, _, _, _, .lstS h r, k => by rw [D.flat] at k; cases k
  | _, _, _, _, .lstO h r, k => by rw [D.flat] at k; cases k
  | _, _, _, _, .scr h, k => by rw [D.flat] at k; cases k
  | _, _, _, _, .insF h r, k => by rw [D.flat] at k; cases k
  | _, _, _, _, .insS h r, k => by rw [D.flat] at k; cases k
  | _, _, _, _, .insO h r, k => by rw [D.flat] at k; cases k
theorem Reps.flat : ∀ {m : Mode} {d : List D} {v : List V} {A : List Addr}, Reps W H G m d v A → D.flats d = true → A = [] ∧ ∀ m' G', Reps W H G' m' d v []
  | _, _, _, _, .nil m, _ => ⟨rfl, fun m' _ => .nil m'⟩
  | _, _, _, _, .cons h r, k => by
    rw [D.flats, Bool.and_eq_true] at k
    obtain ⟨e1, q1⟩ := Rep.flat h k.1
    obtain ⟨e2, q2⟩ := Reps.flat r k.2
    subst e1 e2
    exact ⟨rfl, fun m' G' => .cons (q1 m' G') (q2 m' G')⟩
end
mutual
/-- what is owned is frozen: looked at -/
theorem Rep.froze (hG : Same G G') : ∀ {m : Mode} {d : D} {v : V} {A : List Addr}, Rep W H G m d v A → (∀ a ∈ A, G' a = H a) → Rep W H G' .F d v []
  | _, _, _, _, .non m, _ => .non _
  | _, _, _, _, .bl m b, _ => .bl _ b
  | _, _, _, _, .int m b, _ => .int _ b
  | _, _, _, _, .str m b, _ => .str _ b
  | _, _, _, _, .ty m b, _ => .ty _ b
  | _, _, _, _, .cl m b, _ => .cl _ b
  | _, _, _, _, .exc m b, _ => .exc _ b
  | _, _, _, _, .tup h r, k => .tup h (Reps.froze hG r k)
  | _, _, _, _, .lstF h r, k => .lstF (hG _ _ h) (Reps.froze hG r fun _ z => nomatch z)
  | _, _, _, _, .lstS h r, k => .lstF ((k _ (by simp)).trans h) (Reps.froze hG r fun _ z => nomatch z)
  | _, _, _, _, .lstO h r, k => .lstF ((k _ (by simp)).trans h) (Reps.froze hG r fun a z => k a (List.mem_cons_of_mem _ z))
  | _, _, _, _, .scr h, _ => .scr (hG.seq h)
  | _, _, _, _, .insF h r, k => .insF (hG _ _ h) (Repf.froze hG r fun _ z => nomatch z)
  | _, _, _, _, .insS h r, k => .insF ((k _ (by simp)).trans h) (Repf.froze hG r fun _ z => nomatch z)
  | _, _, _, _, .insO h r, k => .insF ((k _ (by simp)).trans h) (Repf.froze hG r fun a z => k a (List.mem_cons_of_mem _ z))
theorem Reps.froze (hG : Same G G') : ∀ {m : Mode} {d : List D} {v : List V} {A : List Addr}, Reps W H G m d v A → (∀ a ∈ A, G' a = H a) → Reps W H G' .F d v []
  | _, _, _, _, .nil m, _ => .nil _
  | _, _, _, _, .cons h r, k => by
    have z := Reps.cons (Rep.froze hG h fun a z => k a (List.mem_append_left _ z)) (Reps.froze hG r fun a z => k a (List.mem_append_right _ z))
    exact z
theorem Repf.froze (hG : Same G G') : ∀ {m : Mode} {d : List (Str × D)} {v : List (Str × V)} {A : List Addr}, Repf W H G m d v A → (∀ a ∈ A, G' a = H a) → Repf W H G' .F d v []
  | _, _, _, _, .nil m, _ => .nil _
  | _, _, _, _, .cons (n := n) h r, k => by
    have z := Repf.cons (n := n) (Rep.froze hG h fun a z => k a (List.mem_append_left _ z)) (Repf.froze hG r fun a z => k a (List.mem_append_right _ z))
    exact z
end
mutual
theorem Rep.Fnil : ∀ {m : Mode} {d : D} {v : V} {A : List Addr}, Rep W H G m d v A → m = .F → A = []
  | _, _, _, _, .non m, _ => rfl
  | _, _, _, _, .bl m b, _ => rfl
  | _, _, _, _, .int m b, _ => rfl
  | _, _, _, _, .str m b, _ => rfl
  | _, _, _, _, .ty m b, _ => rfl
  | _, _, _, _, .cl m b, _ => rfl
  | _, _, _, _, .exc m b, _ => rfl
  | _, _, _, _, .tup h r, k => Reps.Fnil r k
  | _, _, _, _, .lstF h r, k => rfl
  | _, _, _, _, .scr h, _ => rfl
  | _, _, _, _, .insF h r, k => rfl
  | _, _, _, _, .lstS h r, k => nomatch k
  | _, _, _, _, .lstO h r, k => nomatch k
  | _, _, _, _, .insS h r, k => nomatch k
  | _, _, _, _, .insO h r, k => nomatch k
theorem Reps.Fnil : ∀ {m : Mode} {d : List D} {v : List V} {A : List Addr}, Reps W H G m d v A → m = .F → A = []
  | _, _, _, _, .nil m, _ => rfl
  | _, _, _, _, .cons h r, k => by
    rw [Rep.Fnil h k, Reps.Fnil r k]; rfl
end
theorem Rep.nrm {m : Mode} {d : D} {v : V} {A : List Addr} (r : Rep W H G m d v A) : Rep W H G (nrm m d).m (nrm m d).d v A := by
  unfold Tr.nrm
  split
  · rename_i e
    obtain ⟨e1, q⟩ := r.flat e
    subst e1
    exact q _ _
  · exact r
theorem Reps.len {m : Mode} : ∀ {ds : List D} {vs : List V} {A : List Addr}, Reps W H G m ds vs A → ds.length = vs.length
  | _, _, _, .nil _ => rfl
  | _, _, _, .cons _ r => by rw [List.length_cons, List.length_cons, Reps.len r]
end

/-! ### values handed on -/
inductive RepL (W : Wd) (H G : Hp) : List Val → List V → List Addr → Prop
  | nil : RepL W H G [] [] []
  | cons {r : Val} {rs : List Val} {v : V} {vs : List V} {A B : List Addr} : Rep W H G r.m r.d v A → RepL W H G rs vs B → RepL W H G (r :: rs) (v :: vs) (A ++ B)
theorem RepL.mono {W : Wd} {H G H' G' : Hp} (hK : ∀ a vs, SqT W.K H a vs → SqT W.K H' a vs) (hG : Same G G') : ∀ {d : List Val} {v : List V} {A : List Addr}, RepL W H G d v A → (∀ a ∈ A, ∀ o, H a = some o → H' a = some o) → RepL W H' G' d v A
  | _, _, _, .nil, _ => .nil
  | _, _, _, .cons h r, k => .cons (h.mono hK hG fun a z => k a (List.mem_append_left _ z)) (RepL.mono hK hG r fun a z => k a (List.mem_append_right _ z))
theorem RepL.own {W : Wd} {H G : Hp} : ∀ {d : List Val} {v : List V} {A : List Addr}, RepL W H G d v A → ∀ a ∈ A, ∃ o, H a = some o ∧ Mutb o
  | _, _, _, .nil => fun _ z => nomatch z
  | _, _, _, .cons h r => fun a z => (List.mem_append.mp z).elim (h.own a) (RepL.own r a)
theorem RepL.froze {W : Wd} {H G G' : Hp} (hG : Same G G') : ∀ {d : List Val} {v : List V} {A : List Addr}, RepL W H G d v A → (∀ a ∈ A, G' a = H a) → Reps W H G' .F (d.map (·.d)) v []
  | _, _, _, .nil, _ => .nil _
  | _, _, _, .cons h r, k => by
    have z := Reps.cons (h.froze hG fun a z => k a (List.mem_append_left _ z)) (RepL.froze hG r fun a z => k a (List.mem_append_right _ z))
    exact z

/-! ### states -/
def Unl (ρ : Env) (As : Nat → List Addr) (a : Addr) : Prop := ∃ (i : Nat) (s : Slot), ρ[i]? = some (some s) ∧ s.lk = false ∧ a ∈ As i
structure Sta (W : Wd) (ρ : Env) (σ : L2.St) (H F G : Hp) (As : Nat → List Addr) : Prop where
  len : ρ.length = σ.length
  slot : ∀ (i : Nat) (s : Slot), ρ[i]? = some (some s) → ∃ v, σ[i]? = some (some v) ∧ Rep W H F s.m s.d v (As i)
  lock : ∀ (i : Nat) (s : Slot), ρ[i]? = some (some s) → s.lk = true → ∀ a ∈ As i, G a = H a
  free : ∀ (i : Nat) (s : Slot), ρ[i]? = some (some s) → s.lk = false → ∀ a ∈ As i, G a = none
  none : ∀ i, (∀ s, ρ[i]? ≠ some (some s)) → As i = []
  nd : ∀ i, (As i).Nodup
  dj : ∀ i j a, a ∈ As i → a ∈ As j → i = j
  fo : ∀ i a, a ∈ As i → F a = Option.none
  fg : Same F G
  gh : Same G H
section
variable {W : Wd} {ρ ρ' : Env} {σ σ' : L2.St} {H F G H' F' G' : Hp} {As As' : Nat → List Addr}
theorem Sta.has (S : Sta W ρ σ H F G As) {i : Nat} {a : Addr} (h : a ∈ As i) : ∃ s, ρ[i]? = some (some s) := by
  refine Classical.byContradiction fun q => ?_
  have e := S.none i fun s z => q ⟨s, z⟩
  rw [e] at h
  cases h
theorem Sta.own (S : Sta W ρ σ H F G As) {i : Nat} {a : Addr} (h : a ∈ As i) : ∃ o, H a = some o ∧ Mutb o := by
  obtain ⟨s, e⟩ := S.has h
  obtain ⟨v, _, r⟩ := S.slot i s e
  exact r.own a h
theorem Sta.unl (S : Sta W ρ σ H F G As) {a : Addr} (h : Unl ρ As a) : (∃ o, H a = some o ∧ Mutb o) ∧ G a = Option.none := by
  obtain ⟨i, s, e, l, m⟩ := h
  exact ⟨S.own m, S.free i s e l a m⟩
/-- tuples stand still -/
theorem Sta.tup (S : Sta W ρ σ H F G As) (keep : ∀ a o, H a = some o → ¬ Unl ρ As a → H' a = some o) : ∀ a vs, SqT W.K H a vs → SqT W.K H' a vs := by
  intro a vs h
  have go : ∀ o, H a = some o → ¬ Mutb o → H' a = some o := fun o e nm => by
    refine keep a o e fun u => ?_
    obtain ⟨⟨o', e', mu⟩, _⟩ := S.unl u
    rw [e] at e'
    cases e'
    exact nm mu
  rcases h with (h | ⟨o, h⟩) | h
  · exact .inl (.inl (go _ h fun z => z))
  · exact .inl (.inr ⟨o, go _ h fun z => z⟩)
  · exact .inr h
/-- what an expression may have changed -/
structure Post (W : Wd) (ρ : Env) (σ : L2.St) (H F G : Hp) (As : Nat → List Addr) (ρ' : Env) (H' G' : Hp) (As' : Nat → List Addr) : Prop where
  st : Sta W ρ' σ H' F G' As'
  keep : ∀ a o, H a = some o → ¬ Unl ρ As a → H' a = some o
  dom : ∀ a, H' a = none → H a = none
  gg : Same G G'
  gn : ∀ a, G a = none → G' a ≠ none → H a = none ∨ ∃ i, a ∈ As i
  an : ∀ i a, a ∈ As' i → (∃ j, a ∈ As j) ∨ H a = none
  ul : ∀ a, Unl ρ' As' a → Unl ρ As a ∨ H a = none
  lk : ∀ (i : Nat) (s : Slot), ρ[i]? = some (some s) → s.lk = true → ρ'[i]? = some (some s) ∧ As' i = As i
  nw : ∀ (i : Nat), ρ[i]? = some none → ρ'[i]? = some none
/-- a value at hand, beside the slots -/
structure Tmp (W : Wd) (σ : L2.St) (H G : Hp) (As : Nat → List Addr) (B : List Addr) : Prop where
  nd : B.Nodup
  g : ∀ b ∈ B, G b = none
  h : ∀ b ∈ B, H b ≠ none
  a : ∀ b ∈ B, ∀ i, b ∉ As i
theorem Post.refl (S : Sta W ρ σ H F G As) : Post W ρ σ H F G As ρ H G As :=
  ⟨S, fun _ _ e _ => e, fun _ e => e, Same.refl _, fun _ e n => absurd e n, fun i _ h => .inl ⟨i, h⟩, fun _ h => .inl h, fun _ _ e _ => ⟨e, rfl⟩, fun _ e => e⟩
theorem Post.trans {ρ1 ρ2 : Env} {H1 G1 H2 G2 : Hp} {As1 As2 : Nat → List Addr} (S : Sta W ρ σ H F G As) (p : Post W ρ σ H F G As ρ1 H1 G1 As1) (q : Post W ρ1 σ H1 F G1 As1 ρ2 H2 G2 As2) : Post W ρ σ H F G As ρ2 H2 G2 As2 where
  st := q.st
  keep := fun a o e n => q.keep a o (p.keep a o e n) fun u => by
    rcases p.ul a u with z | z
    · exact n z
    · rw [e] at z; cases z
  dom := fun a e => p.dom a (q.dom a e)
  gg := p.gg.trans q.gg
  gn := fun a e n => by
    cases z : G1 a with
    | some o => exact p.gn a e (by rw [z]; exact fun q => nomatch q)
    | none =>
      rcases q.gn a z n with y | ⟨i, y⟩
      · exact .inl (p.dom a y)
      · rcases p.an i a y with y | y
        · exact .inr y
        · exact .inl y
  an := fun i a h => by
    rcases q.an i a h with ⟨j, y⟩ | y
    · exact p.an j a y
    · exact .inr (p.dom a y)
  ul := fun a h => by
    rcases q.ul a h with y | y
    · exact p.ul a y
    · exact .inr (p.dom a y)
  lk := fun i s e l => by
    obtain ⟨e1, a1⟩ := p.lk i s e l
    obtain ⟨e2, a2⟩ := q.lk i s e1 l
    exact ⟨e2, a2.trans a1⟩
  nw := fun i e => q.nw i (p.nw i e)
/-- what was at hand is still there -/
theorem Post.tmp (p : Post W ρ σ H F G As ρ' H' G' As') (S : Sta W ρ σ H F G As) {B : List Addr} (t : Tmp W σ H G As B) :
    Tmp W σ H' G' As' B ∧ (∀ b ∈ B, ∀ o, H b = some o → H' b = some o) := by
  have k : ∀ b ∈ B, ∀ o, H b = some o → H' b = some o := fun b hb o e => p.keep b o e fun ⟨i, s, _, _, z⟩ => t.a b hb i z
  refine ⟨⟨t.nd, fun b hb => ?_, fun b hb e => t.h b hb (p.dom b e), fun b hb i z => ?_⟩, k⟩
  · cases z : G' b with
    | none => rfl
    | some o =>
      rcases p.gn b (t.g b hb) (by rw [z]; exact fun q => nomatch q) with y | ⟨i, y⟩
      · exact absurd y (t.h b hb)
      · exact absurd y (t.a b hb i)
  · rcases p.an i b z with ⟨j, y⟩ | y
    · exact t.a b hb j y
    · exact t.h b hb y
theorem Post.tups (p : Post W ρ σ H F G As ρ' H' G' As') (S : Sta W ρ σ H F G As) : ∀ a vs, SqT W.K H a vs → SqT W.K H' a vs := S.tup p.keep
end

/-! ### judgements -/
def NoLk (ρ : Env) : Prop := ∀ (i : Nat) (s : Slot), ρ[i]? = some (some s) → s.lk = false
def SimE (W : Wd) (t : TE) (f : SE) : Prop :=
  ∀ (ρ : Env) (σ : L2.St) (H F G : Hp) (As : Nat → List Addr) (r : Val) (ρ' : Env) (Q : VK), Sta W ρ σ H F G As → f ρ = some (r, ρ') →
    (∀ v H' G' As' B, Post W ρ σ H F G As ρ' H' G' As' → Rep W H' G' r.m r.d v B → Tmp W σ H' G' As' B → (∀ b ∈ B, H b = none ∨ ∃ i, b ∈ As i) → Q v H') → t σ H Q
def SimA (W : Wd) (t : TA) (f : SA) : Prop :=
  ∀ (ρ : Env) (σ : L2.St) (H F G : Hp) (As : Nat → List Addr) (rs : List Val) (ρ' : Env) (Q : List V → Hp → Prop), Sta W ρ σ H F G As → f ρ = some (rs, ρ') →
    (∀ vs H' G' As' B, Post W ρ σ H F G As ρ' H' G' As' → RepL W H' G' rs vs B → Tmp W σ H' G' As' B → (∀ b ∈ B, H b = none ∨ ∃ i, b ∈ As i) → Q vs H') → t σ H Q
def SimT (W : Wd) (t : TT) (f : SB) : Prop :=
  ∀ (ρ : Env) (σ : L2.St) (H F G : Hp) (As : Nat → List Addr) (b : Bool) (ρ' : Env) (Q : Bool → Hp → Prop), Sta W ρ σ H F G As → f ρ = some (b, ρ') →
    (∀ H' As', Post W ρ σ H F G As ρ' H' G As' → (NoLk ρ → NoLk ρ') → Q b H') → t σ H Q
/-- what a rule over values gives -/
structure VPost (W : Wd) (H G : Hp) (A : List Addr) (r : Val) (v : V) (H' G' : Hp) (C : List Addr) : Prop where
  keep : ∀ a o, H a = some o → H' a = some o
  gg : Same G G'
  gh : Same G' H'
  gn : ∀ a, G a = none → G' a ≠ none → H a = none ∨ a ∈ A
  rep : Rep W H' G' r.m r.d v C
  nd : C.Nodup
  cg : ∀ c ∈ C, G' c = none
  cn : ∀ c ∈ C, H c = none ∨ c ∈ A
abbrev RV := List V → Hp → VK → Prop
def VOp (W : Wd) (rr : RV) (g : List Val → Option Val) : Prop :=
  ∀ (H G : Hp) (rs : List Val) (vs : List V) (A : List Addr) (r : Val) (Q : VK), Same G H → RepL W H G rs vs A → A.Nodup → (∀ a ∈ A, G a = none) → g rs = some r →
    (∀ v H' G' C, VPost W H G A r v H' G' C → Q v H') → rr vs H Q
end Tr

/-! TrExp: expressions keep their tree meaning. -/
namespace Tr
open PySem L2
section
variable {W : Wd} {ρ ρ' : Env} {σ σ' : L2.St} {H F G H' F' G' : Hp} {As As' : Nat → List Addr}

theorem Tmp.back {B : List Addr} (t : Tmp W σ H G' As B) (g : Same G G') : Tmp W σ H G As B := by
  refine ⟨t.nd, fun b hb => ?_, t.h, t.a⟩
  cases q : G b with
  | none => rfl
  | some o =>
    have z := t.g b hb
    rw [g b o q] at z
    cases z
/-- also look at A -/
def lookAt (G H : Hp) (A : List Addr) : Hp := fun a => if a ∈ A then H a else G a
theorem lookAt_in {A : List Addr} {a : Addr} (h : a ∈ A) : lookAt G H A a = H a := if_pos h
theorem lookAt_out {A : List Addr} {a : Addr} (h : a ∉ A) : lookAt G H A a = G a := if_neg h
theorem lookAt_same {A : List Addr} (h : ∀ a ∈ A, G a = none) : Same G (lookAt G H A) := fun a o e => by
  rw [lookAt_out fun z => by rw [h a z] at e; cases e]
  exact e
theorem lookAt_sub {A : List Addr} (h : Same G H) : Same (lookAt G H A) H := fun a o e => by
  by_cases z : a ∈ A
  · rw [lookAt_in z] at e; exact e
  · rw [lookAt_out z] at e; exact h a o e
theorem tmp_nil : Tmp W σ H G As [] := ⟨List.nodup_nil, (fun _ z => nomatch z), (fun _ z => nomatch z), (fun _ z => nomatch z)⟩

theorem get_set {α : Type} (l : List α) (i j : Nat) (x : α) : (l.set i x)[j]? = if j = i ∧ i < l.length then some x else l[j]? := by
  by_cases h : j = i
  · subst h
    by_cases q : j < l.length
    · rw [List.getElem?_set_self q, if_pos ⟨rfl, q⟩]
    · rw [if_neg fun z => q z.2, List.getElem?_eq_none (by simpa using q), List.getElem?_eq_none (by simpa using q)]
  · rw [List.getElem?_set_ne (Ne.symm h), if_neg fun z => h z.1]
theorem lt_of_get {α : Type} {l : List α} {i : Nat} {x : α} (h : l[i]? = some x) : i < l.length := (List.getElem?_eq_some_iff.mp h).1

theorem sim_var (i : Nat) : SimE W (tVar i) (sVar i) := by
  intro ρ σ H F G As r ρ' Q S e k
  unfold sVar at e
  split at e
  case h_2 => cases e
  rename_i s hs
  obtain ⟨v, hv, rep⟩ := S.slot i s hs
  refine ⟨v, hv, ?_⟩
  split at e
  · rename_i hf
    cases e
    obtain ⟨_, q⟩ := rep.flat hf
    exact k v H G As [] (Post.refl S) (q .O G) tmp_nil fun _ z => nomatch z
  split at e
  · rename_i hm
    cases e
    have ea := rep.Fnil hm
    rw [hm, ea] at rep
    exact k v H G As [] (Post.refl S) (rep.mono (fun _ _ z => z) S.fg fun _ z => nomatch z) tmp_nil fun _ z => nomatch z
  · cases e
    have hi := lt_of_get hs
    have gs : Same G (lookAt G H (As i)) := fun a o e => by
      by_cases z : a ∈ As i
      · rw [lookAt_in z]; exact S.gh a o e
      · rw [lookAt_out z]; exact e
    have get : ∀ (j : Nat) (t : Slot), (ρ.set i (some { s with lk := true }))[j]? = some (some t) → (j = i ∧ t = { s with lk := true }) ∨ (j ≠ i ∧ ρ[j]? = some (some t)) := fun j t h => by
      rw [get_set] at h
      split at h
      · rename_i q
        cases h
        exact .inl ⟨q.1, rfl⟩
      · rename_i q
        by_cases z : j = i
        · exact absurd ⟨z, hi⟩ q
        · exact .inr ⟨z, h⟩
    have st : Sta W (ρ.set i (some { s with lk := true })) σ H F (lookAt G H (As i)) As := by
      refine ⟨by rw [List.length_set]; exact S.len, fun j t h => ?_, fun j t h l a ha => ?_, fun j t h l a ha => ?_, fun j h => S.none j fun t z => ?_, S.nd, S.dj, S.fo, fun a o e => gs a o (S.fg a o e), lookAt_sub S.gh⟩
      · rcases get j t h with ⟨e1, e2⟩ | ⟨_, e2⟩
        · subst e1 e2
          exact ⟨v, hv, rep⟩
        · exact S.slot j t e2
      · rcases get j t h with ⟨e1, e2⟩ | ⟨e1, e2⟩
        · subst e1
          exact lookAt_in ha
        · rw [lookAt_out fun z => e1 (S.dj j i a ha z)]
          exact S.lock j t e2 l a ha
      · rcases get j t h with ⟨e1, e2⟩ | ⟨e1, e2⟩
        · subst e2
          cases l
        · rw [lookAt_out fun z => e1 (S.dj j i a ha z)]
          exact S.free j t e2 l a ha
      · by_cases q : j = i
        · subst q
          exact h { s with lk := true } (by rw [List.getElem?_set_self hi])
        · exact h t (by rw [List.getElem?_set_ne (Ne.symm q)]; exact z)
    refine k v H _ As [] ⟨st, fun _ _ e _ => e, fun _ e => e, gs, fun a e n => ?_, fun i _ h => .inl ⟨i, h⟩, fun a h => .inl ?_, fun j t h l => ⟨?_, rfl⟩, fun j h => ?_⟩ (rep.froze (fun a o e => gs a o (S.fg a o e)) fun a ha => lookAt_in ha) tmp_nil fun _ z => nomatch z
    · by_cases z : a ∈ As i
      · exact .inr ⟨i, z⟩
      · rw [lookAt_out z] at n
        exact absurd e n
    · obtain ⟨j, t, h1, h2, h3⟩ := h
      rcases get j t h1 with ⟨e1, e2⟩ | ⟨e1, e2⟩
      · subst e2
        cases h2
      · exact ⟨j, t, e2, h2, h3⟩
    · by_cases q : j = i
      · subst q
        rw [hs] at h
        cases h
        rw [List.getElem?_set_self hi]
        obtain ⟨sm, sl, sd⟩ := s
        cases l
        rfl
      · rw [List.getElem?_set_ne (Ne.symm q)]
        exact h
    · by_cases q : j = i
      · subst q
        rw [hs] at h
        cases h
      · rw [List.getElem?_set_ne (Ne.symm q)]
        exact h

theorem sim_move (i : Nat) : SimE W (tVar i) (sMove i) := by
  intro ρ σ H F G As r ρ' Q S e k
  unfold sMove at e
  split at e
  case h_2 => cases e
  rename_i s hs
  obtain ⟨v, hv, rep⟩ := S.slot i s hs
  refine ⟨v, hv, ?_⟩
  split at e
  · rename_i hf
    cases e
    obtain ⟨_, q⟩ := rep.flat hf
    exact k v H G As [] (Post.refl S) (q .O G) tmp_nil fun _ z => nomatch z
  split at e
  · rename_i hm
    cases e
    have ea := rep.Fnil hm
    rw [hm, ea] at rep
    exact k v H G As [] (Post.refl S) (rep.mono (fun _ _ z => z) S.fg fun _ z => nomatch z) tmp_nil fun _ z => nomatch z
  split at e
  · cases e
  · rename_i hl
    have hl' : s.lk = false := by simpa using hl
    cases e
    have hi := lt_of_get hs
    have get : ∀ (j : Nat) (t : Slot), (ρ.set i none)[j]? = some (some t) → j ≠ i ∧ ρ[j]? = some (some t) := fun j t h => by
      rw [get_set] at h
      split at h
      · cases h
      · rename_i q
        by_cases z : j = i
        · exact absurd ⟨z, hi⟩ q
        · exact ⟨z, h⟩
    have st : Sta W (ρ.set i none) σ H F G (fun j => if j = i then [] else As j) := by
      refine ⟨by rw [List.length_set]; exact S.len, fun j t h => ?_, fun j t h l a ha => ?_, fun j t h l a ha => ?_, fun j h => ?_, fun j => ?_, fun j1 j2 a h1 h2 => ?_, fun j a h => ?_, S.fg, S.gh⟩
      · obtain ⟨e1, e2⟩ := get j t h
        rw [if_neg e1]
        exact S.slot j t e2
      · obtain ⟨e1, e2⟩ := get j t h
        rw [if_neg e1] at ha
        exact S.lock j t e2 l a ha
      · obtain ⟨e1, e2⟩ := get j t h
        rw [if_neg e1] at ha
        exact S.free j t e2 l a ha
      · by_cases q : j = i
        · exact if_pos q
        · rw [if_neg q]
          refine S.none j fun t z => h t ?_
          rw [List.getElem?_set_ne (Ne.symm q)]
          exact z
      · by_cases q : j = i
        · rw [if_pos q]; exact List.nodup_nil
        · rw [if_neg q]; exact S.nd j
      · by_cases q : j1 = i
        · rw [if_pos q] at h1; cases h1
        · by_cases q2 : j2 = i
          · rw [if_pos q2] at h2; cases h2
          · rw [if_neg q] at h1
            rw [if_neg q2] at h2
            exact S.dj _ _ _ h1 h2
      · by_cases q : j = i
        · rw [if_pos q] at h; cases h
        · rw [if_neg q] at h
          exact S.fo _ _ h
    refine k v H G _ (As i) ⟨st, fun _ _ e _ => e, fun _ e => e, Same.refl _, fun _ e n => absurd e n, fun j a h => .inl ?_, fun a h => .inl ?_, fun j t h l => ?_, fun j h => ?_⟩ (rep.mono (fun _ _ z => z) S.fg fun _ _ _ z => z)
      ⟨S.nd i, fun b hb => S.free i s hs hl' b hb, fun b hb => ?_, fun b hb j => ?_⟩ fun b hb => .inr ⟨i, hb⟩
    · by_cases q : j = i
      · rw [if_pos q] at h; cases h
      · rw [if_neg q] at h; exact ⟨j, h⟩
    · obtain ⟨j, t, h1, h2, h3⟩ := h
      obtain ⟨e1, e2⟩ := get j t h1
      simp only [if_neg e1] at h3
      exact ⟨j, t, e2, h2, h3⟩
    · have q : j ≠ i := fun z => by
        subst z
        rw [hs] at h
        cases h
        rw [l] at hl'
        cases hl'
      exact ⟨by rw [List.getElem?_set_ne (Ne.symm q)]; exact h, if_neg q⟩
    · have q : j ≠ i := fun z => by
        subst z
        rw [hs] at h
        cases h
      rw [List.getElem?_set_ne (Ne.symm q)]
      exact h
    · obtain ⟨o, eo, _⟩ := S.own hb
      rw [eo]
      exact fun z => nomatch z
    · intro z
      by_cases q : j = i
      · rw [if_pos q] at z; cases z
      · rw [if_neg q] at z
        exact q (S.dj _ _ _ z hb)

theorem sim_con {d : D} {v : V} (h : ∀ H G, Rep W H G .O d v []) : SimE W (tC v) (sCon d) := by
  intro ρ σ H F G As r ρ' Q S e k
  cases e
  exact k v H G As [] (Post.refl S) (h H G) tmp_nil fun _ z => nomatch z

theorem restore_get : ∀ (ρ ρ' : Env), ρ.length = ρ'.length → ∀ i : Nat, (restore ρ ρ')[i]? = (match ρ[i]?, ρ'[i]? with | some a, some b => some (relock a b) | _, b => b)
  | [], [], _, i => by simp [restore]
  | a :: ρ, b :: ρ', h, 0 => by simp [restore]
  | a :: ρ, b :: ρ', h, i + 1 => by
    have q := restore_get ρ ρ' (by simpa using h) i
    simpa [restore] using q
  | [], _ :: _, h, _ => by simp at h
  | _ :: _, [], h, _ => by simp at h
theorem restore_len : ∀ (ρ ρ' : Env), (restore ρ ρ').length = ρ'.length
  | [], ρ' => by simp [restore]
  | _ :: _, [] => by simp [restore]
  | _ :: ρ, _ :: ρ' => by simp [restore, restore_len ρ ρ']

/-- the locks taken back -/
theorem Post.restore (p : Post W ρ σ H F G As ρ' H' G' As') (S : Sta W ρ σ H F G As) : Post W ρ σ H F G As (Tr.restore ρ ρ') H' G As' := by
  have hl : ρ.length = ρ'.length := S.len.trans p.st.len.symm
  have get : ∀ (i : Nat) (s : Slot), (Tr.restore ρ ρ')[i]? = some (some s) → ∃ a b, ρ[i]? = some (some a) ∧ ρ'[i]? = some (some b) ∧ s = { b with lk := a.lk } := fun i s h => by
    rw [restore_get _ _ hl] at h
    cases e1 : ρ[i]? with
    | none =>
      have q : ρ'[i]? = none := List.getElem?_eq_none (by rw [← hl]; simpa using e1)
      rw [e1, q] at h
      cases h
    | some x =>
      cases x with
      | none =>
        have q := p.nw i e1
        rw [e1, q] at h
        cases h
      | some a =>
        cases e2 : ρ'[i]? with
        | none =>
          rw [e1, e2] at h
          cases h
        | some y =>
          rw [e1, e2] at h
          cases y with
          | none => cases h
          | some b =>
            cases h
            exact ⟨a, b, rfl, rfl, rfl⟩
  have put : ∀ (i : Nat) (b : Slot), ρ'[i]? = some (some b) → ∃ s, (Tr.restore ρ ρ')[i]? = some (some s) := fun i b h => by
    rw [restore_get _ _ hl, h]
    cases e1 : ρ[i]? with
    | none => exact ⟨b, rfl⟩
    | some x => cases x <;> exact ⟨_, rfl⟩
  have st : Sta W (Tr.restore ρ ρ') σ H' F G As' := by
    refine ⟨by rw [restore_len]; exact p.st.len, fun i s h => ?_, fun i s h l a ha => ?_, fun i s h l a ha => ?_, fun i h => ?_, p.st.nd, p.st.dj, p.st.fo, S.fg, fun a o e => p.st.gh a o (p.gg a o e)⟩
    · obtain ⟨x, y, e1, e2, rfl⟩ := get i s h
      exact p.st.slot i y e2
    · obtain ⟨x, y, e1, e2, rfl⟩ := get i s h
      obtain ⟨e3, e4⟩ := p.lk i x e1 l
      rw [e4] at ha
      obtain ⟨o, eo, _⟩ := S.own ha
      have g1 := (S.lock i x e1 l a ha).trans eo
      rw [g1]
      exact (p.st.gh a o (p.gg a o g1)).symm
    · obtain ⟨x, y, e1, e2, rfl⟩ := get i s h
      rcases p.an i a ha with ⟨j, z⟩ | z
      · obtain ⟨sj, ej⟩ := S.has z
        cases lj : sj.lk with
        | false => exact S.free j sj ej lj a z
        | true =>
          obtain ⟨e3, e4⟩ := p.lk j sj ej lj
          have ij := p.st.dj i j a ha (e4 ▸ z)
          subst ij
          rw [e1] at ej
          cases ej
          simp only at l
          rw [l] at lj
          cases lj
      · cases q : G a with
        | none => rfl
        | some o =>
          rw [S.gh a o q] at z
          cases z
    · refine p.st.none i fun s z => ?_
      obtain ⟨t, q⟩ := put i s z
      exact h t q
  refine ⟨st, p.keep, p.dom, Same.refl _, fun _ e n => absurd e n, p.an, fun a h => ?_, fun i s e l => ?_, fun i e => ?_⟩
  · obtain ⟨i, s, h1, h2, h3⟩ := h
    obtain ⟨x, y, e1, e2, rfl⟩ := get i s h1
    rcases p.an i a h3 with ⟨j, z⟩ | z
    · obtain ⟨sj, ej⟩ := S.has z
      cases lj : sj.lk with
      | false => exact .inl ⟨j, sj, ej, lj, z⟩
      | true =>
        obtain ⟨e3, e4⟩ := p.lk j sj ej lj
        have ij := p.st.dj i j a h3 (e4 ▸ z)
        subst ij
        rw [e1] at ej
        cases ej
        simp only at h2
        rw [h2] at lj
        cases lj
    · exact .inr z
  · obtain ⟨e2, e3⟩ := p.lk i s e l
    refine ⟨?_, e3⟩
    rw [restore_get _ _ hl, e, e2]
    rfl
  · have e2 := p.nw i e
    rw [restore_get _ _ hl, e, e2]
    rfl

theorem restore_nolk (S : Sta W ρ σ H F G As) (n : NoLk ρ) (p : Post W ρ σ H F G As ρ' H' G' As') : NoLk (Tr.restore ρ ρ') := by
  intro i s e
  rw [restore_get _ _ (S.len.trans p.st.len.symm)] at e
  cases e1 : ρ[i]? with
  | none =>
    have q : ρ'[i]? = none := List.getElem?_eq_none (by rw [← S.len.trans p.st.len.symm]; simpa using e1)
    rw [e1, q] at e
    cases e
  | some x =>
    cases x with
    | none =>
      rw [e1, p.nw i e1] at e
      cases e
    | some a =>
      cases e2 : ρ'[i]? with
      | none => rw [e1, e2] at e; cases e
      | some y =>
        rw [e1, e2] at e
        cases y with
        | none => cases e
        | some b =>
          cases e
          exact n i a e1
theorem sim_seal {t : TE} {f : SE} (h : SimE W t f) : SimE W t (sealE f) := by
  intro ρ σ H F G As r ρ' Q S e k
  unfold sealE at e
  split at e
  · rename_i r1 ρ1 e1
    split at e
    · rename_i hm
      cases e
      refine h ρ σ H F G As _ _ Q S e1 fun v H' G' As' B p rep tmp org => ?_
      exact k v H' G As' B (p.restore S) (rep.anyG hm) (tmp.back p.gg) org
    · cases e
      exact h ρ σ H F G As _ _ Q S e1 k
  · cases e

theorem sim_nil : SimA W tNil sNil := by
  intro ρ σ H F G As rs ρ' Q S e k
  cases e
  exact k [] H G As [] (Post.refl S) .nil tmp_nil fun _ z => nomatch z
theorem sim_cons {te : TE} {ta : TA} {f : SE} {g : SA} (hf : SimE W te f) (hg : SimA W ta g) : SimA W (tCons te ta) (sCons f g) := by
  intro ρ σ H F G As rs ρ' Q S e k
  unfold sCons at e
  split at e
  case h_2 => cases e
  rename_i r ρ1 e1
  split at e
  case h_2 => cases e
  rename_i rs2 ρ2 e2
  cases e
  refine hf ρ σ H F G As _ _ _ S e1 fun v H1 G1 As1 B1 p1 rep1 t1 o1 => ?_
  refine hg _ σ H1 F G1 As1 _ _ _ p1.st e2 fun vs H2 G2 As2 B2 p2 rep2 t2 o2 => ?_
  obtain ⟨t1', k1⟩ := p2.tmp p1.st t1
  refine k (v :: vs) H2 G2 As2 (B1 ++ B2) (p1.trans S p2) (.cons (rep1.mono (p2.tups p1.st) p2.gg k1) rep2) ⟨List.nodup_append.mpr ⟨t1.nd, t2.nd, fun a ha b hb z => ?_⟩, fun b hb => ?_, fun b hb => ?_, fun b hb => ?_⟩ fun b hb => ?_
  · subst z
    rcases o2 a hb with y | ⟨i, y⟩
    · exact t1.h a ha y
    · exact t1.a a ha i y
  · exact (List.mem_append.mp hb).elim (t1'.g b) (t2.g b)
  · exact (List.mem_append.mp hb).elim (t1'.h b) (t2.h b)
  · exact (List.mem_append.mp hb).elim (t1'.a b) (t2.a b)
  · rcases List.mem_append.mp hb with z | z
    · exact o1 b z
    · rcases o2 b z with y | ⟨i, y⟩
      · exact .inl (p1.dom b y)
      · rcases p1.an i b y with y | y
        · exact .inr y
        · exact .inl y

/-- a rule over values, behind its arguments -/
theorem VPost.post {B C : List Addr} {ρ1 : Env} {H1 G1 : Hp} {As1 : Nat → List Addr} {r : Val} {v : V} (q : VPost W H1 G1 B r v H' G' C) (p : Post W ρ σ H F G As ρ1 H1 G1 As1) (S : Sta W ρ σ H F G As) (t : Tmp W σ H1 G1 As1 B) (org : ∀ b ∈ B, H b = none ∨ ∃ i, b ∈ As i) :
    Post W ρ σ H F G As ρ1 H' G' As1 ∧ Tmp W σ H' G' As1 C ∧ ∀ c ∈ C, H c = none ∨ ∃ i, c ∈ As i := by
  have T : ∀ a vs, SqT W.K H1 a vs → SqT W.K H' a vs := p.st.tup fun a o e _ => q.keep a o e
  have gN : ∀ i a, a ∈ As1 i → G1 a = none → G' a = none := fun i a h e => by
    cases z : G' a with
    | none => rfl
    | some o =>
      rcases q.gn a e (by rw [z]; exact fun y => nomatch y) with y | y
      · obtain ⟨o, eo, _⟩ := p.st.own h
        rw [eo] at y
        cases y
      · exact absurd h (t.a a y i)
  have st : Sta W ρ1 σ H' F G' As1 := by
    refine ⟨p.st.len, fun i s h => ?_, fun i s h l a ha => ?_, fun i s h l a ha => gN i a ha (p.st.free i s h l a ha), p.st.none, p.st.nd, p.st.dj, p.st.fo, fun a o e => q.gg a o (p.st.fg a o e), q.gh⟩
    · obtain ⟨v, e, rep⟩ := p.st.slot i s h
      exact ⟨v, e, rep.mono T (Same.refl _) fun a _ o e => q.keep a o e⟩
    · obtain ⟨o, eo, _⟩ := p.st.own ha
      rw [q.keep a o eo]
      exact q.gg a o ((p.st.lock i s h l a ha).trans eo)
  have cH : ∀ c ∈ C, H c = none ∨ ∃ i, c ∈ As i := fun c hc => by
    rcases q.cn c hc with y | y
    · exact .inl (p.dom c y)
    · exact org c y
  refine ⟨⟨st, fun a o e n => q.keep a o (p.keep a o e n), fun a e => ?_, fun a o e => q.gg a o (p.gg a o e), fun a e n => ?_, p.an, p.ul, p.lk, p.nw⟩, ⟨q.nd, q.cg, fun c hc => ?_, fun c hc i z => ?_⟩, cH⟩
  · refine p.dom a ?_
    cases z : H1 a with
    | none => rfl
    | some o =>
      rw [q.keep a o z] at e
      cases e
  · cases z : G1 a with
    | some o => exact p.gn a e (by rw [z]; exact fun y => nomatch y)
    | none =>
      rcases q.gn a z n with y | y
      · exact .inl (p.dom a y)
      · exact org a y
  · obtain ⟨o, eo, _⟩ := q.rep.own c hc
    rw [eo]
    exact fun y => nomatch y
  · rcases q.cn c hc with y | y
    · obtain ⟨o, eo, _⟩ := p.st.own z
      rw [eo] at y
      cases y
    · exact t.a c y i z

theorem sim_app {ta : TA} {fs : SA} {rr : RV} {g : List Val → Option Val} (ha : SimA W ta fs) (hg : VOp W rr g) : SimE W (tCB rr ta) (sApp g fs) := by
  refine sim_seal ?_
  intro ρ σ H F G As r ρ' Q S e k
  simp only at e
  split at e
  case h_2 => cases e
  rename_i rs ρ1 e1
  split at e
  case h_2 => cases e
  rename_i r2 e2
  cases e
  refine ha ρ σ H F G As _ _ _ S e1 fun vs H1 G1 As1 B p rep t org => ?_
  refine hg H1 G1 _ vs B _ Q p.st.gh rep t.nd t.g e2 fun v H2 G2 C q => ?_
  obtain ⟨p2, t2, o2⟩ := q.post p S t org
  exact k v H2 G2 As1 C p2 q.rep t2 o2
def rr2 (r : R2) : RV := fun vs H Q => match vs with
  | [x, y] => r x y H Q
  | _ => False
def rr1 (r : V → Hp → VK → Prop) : RV := fun vs H Q => match vs with
  | [x] => r x H Q
  | _ => False
theorem sim_app2 {ta tb : TE} {f h : SE} {r : R2} {g : List Val → Option Val} (ha : SimE W ta f) (hb : SimE W tb h) (hg : VOp W (rr2 r) g) : SimE W (tOp r ta tb) (sApp2 g f h) :=
  sim_app (sim_cons ha (sim_cons hb sim_nil)) hg
theorem sim_app1 {ta : TE} {f : SE} {r : V → Hp → VK → Prop} {g : List Val → Option Val} (ha : SimE W ta f) (hg : VOp W (rr1 r) g) : SimE W (tUn r ta) (sApp1 g f) :=
  sim_app (sim_cons ha sim_nil) hg

/-! ### tests -/
theorem sim_test {t : TE} {f : SE} (h : SimE W t f) : SimT W (tTest t) (sTest f) := by
  intro ρ σ H F G As b ρ' Q S e k
  unfold sTest at e
  split at e
  case h_2 => cases e
  rename_i m b1 ρ1 e1
  cases e
  refine h ρ σ H F G As _ _ _ S e1 fun v H' G' As' B p rep t o => ?_
  cases rep
  exact ⟨b, rfl, k H' As' (p.restore S) fun n => restore_nolk S n p⟩
theorem sim_not {t : TT} {f : SB} (h : SimT W t f) : SimT W (tNot t) (sNot f) := by
  intro ρ σ H F G As b ρ' Q S e k
  unfold sNot at e
  split at e
  case h_2 => cases e
  rename_i b1 ρ1 e1
  cases e
  exact h ρ σ H F G As _ _ _ S e1 fun H' As' p l => k H' As' p l
theorem sim_and {t u : TT} {f g : SB} (h : SimT W t f) (h2 : SimT W u g) : SimT W (tAnd t u) (sAnd f g) := by
  intro ρ σ H F G As b ρ' Q S e k
  unfold sAnd at e
  split at e
  · rename_i ρ1 e1
    refine h ρ σ H F G As _ _ _ S e1 fun H' As' p l => ?_
    exact iteT (h2 _ σ H' F G As' _ _ Q p.st e fun H2 As2 p2 l2 => k H2 As2 (p.trans S p2) fun n => l2 (l n))
  · rename_i ρ1 e1
    cases e
    exact h ρ σ H F G As _ _ _ S e1 fun H' As' p l => iteF (k H' As' p l)
  · cases e
theorem sim_or {t u : TT} {f g : SB} (h : SimT W t f) (h2 : SimT W u g) : SimT W (tOr t u) (sOr f g) := by
  intro ρ σ H F G As b ρ' Q S e k
  unfold sOr at e
  split at e
  · rename_i ρ1 e1
    cases e
    exact h ρ σ H F G As _ _ _ S e1 fun H' As' p l => iteT (k H' As' p l)
  · rename_i ρ1 e1
    refine h ρ σ H F G As _ _ _ S e1 fun H' As' p l => ?_
    exact iteF (h2 _ σ H' F G As' _ _ Q p.st e fun H2 As2 p2 l2 => k H2 As2 (p.trans S p2) fun n => l2 (l n))
  · cases e
theorem sim_ifE {c : TT} {ta tb : TE} {s : SB} {f g : SE} (hc : SimT W c s) (hf : SimE W ta f) (hg : SimE W tb g) : SimE W (tIf c ta tb) (sIfE s f g) := by
  intro ρ σ H F G As r ρ' Q S e k
  unfold sIfE at e
  have go : ∀ {ρ1 : Env} {H1 : Hp} {As1 : Nat → List Addr} (t : TE) (h : SE), SimE W t h → Post W ρ σ H F G As ρ1 H1 G As1 → h ρ1 = some (r, ρ') → t σ H1 Q := fun {ρ1 H1 As1} t h sh p e => by
    refine sh ρ1 σ H1 F G As1 r ρ' Q p.st e fun v H' G' As' B q rep t o => k v H' G' As' B (p.trans S q) rep t fun b hb => ?_
    rcases o b hb with y | ⟨i, y⟩
    · exact .inl (p.dom b y)
    · rcases p.an i b y with y | y
      · exact .inr y
      · exact .inl y
  split at e
  · rename_i ρ1 e1
    exact hc ρ σ H F G As _ _ _ S e1 fun H' As' p _ => iteT (go ta f hf p e)
  · rename_i ρ1 e1
    exact hc ρ σ H F G As _ _ _ S e1 fun H' As' p _ => iteF (go tb g hg p e)
  · cases e
/-- truths as values -/
theorem sim_bool {t : TE} {f : SE} (h : SimE W t f) {Q : VK} {m : Mode} {b : Bool} {ρ1 : Env} (S : Sta W ρ σ H F G As) (e : f ρ = some (⟨m, .bl b⟩, ρ1)) (k : ∀ H' G' As', Post W ρ σ H F G As ρ1 H' G' As' → Q (.bl b) H') : t σ H Q := by
  refine h ρ σ H F G As _ _ _ S e fun v H' G' As' B p rep t o => ?_
  cases rep
  exact k H' G' As' p
theorem sim_andV {ta tb : TE} {f g : SE} (h : SimE W ta f) (h2 : SimE W tb g) : SimE W (tAndV ta tb) (sAndV f g) := by
  intro ρ σ H F G As r ρ' Q S e k
  unfold sAndV at e
  split at e
  · rename_i m ρ1 e1
    refine sim_bool h S e1 fun H' G' As' p => ⟨true, rfl, iteT ?_⟩
    refine h2 _ σ H' F G' As' _ _ Q p.st e fun v H2 G2 As2 B q rep t o => k v H2 G2 As2 B (p.trans S q) rep t fun b hb => ?_
    rcases o b hb with y | ⟨i, y⟩
    · exact .inl (p.dom b y)
    · rcases p.an i b y with y | y
      · exact .inr y
      · exact .inl y
  · rename_i m ρ1 e1
    cases e
    exact sim_bool h S e1 fun H' G' As' p => ⟨false, rfl, iteF (k _ H' G' As' [] p (.bl _ _) tmp_nil fun _ z => nomatch z)⟩
  · cases e
theorem sim_orV {ta tb : TE} {f g : SE} (h : SimE W ta f) (h2 : SimE W tb g) : SimE W (tOrV ta tb) (sOrV f g) := by
  intro ρ σ H F G As r ρ' Q S e k
  unfold sOrV at e
  split at e
  · rename_i m ρ1 e1
    cases e
    exact sim_bool h S e1 fun H' G' As' p => ⟨true, rfl, iteT (k _ H' G' As' [] p (.bl _ _) tmp_nil fun _ z => nomatch z)⟩
  · rename_i m ρ1 e1
    refine sim_bool h S e1 fun H' G' As' p => ⟨false, rfl, iteF ?_⟩
    refine h2 _ σ H' F G' As' _ _ Q p.st e fun v H2 G2 As2 B q rep t o => k v H2 G2 As2 B (p.trans S q) rep t fun b hb => ?_
    rcases o b hb with y | ⟨i, y⟩
    · exact .inl (p.dom b y)
    · rcases p.an i b y with y | y
      · exact .inr y
      · exact .inl y
  · cases e
theorem sim_notV {ta : TE} {f : SE} (h : SimE W ta f) : SimE W (tNotV ta) (sNotV f) := by
  intro ρ σ H F G As r ρ' Q S e k
  unfold sNotV at e
  split at e
  · rename_i m b ρ1 e1
    cases e
    exact sim_bool h S e1 fun H' G' As' p => ⟨b, rfl, k _ H' G' As' [] p (.bl _ _) tmp_nil fun _ z => nomatch z⟩
  · cases e
end
end Tr

/-! TrStm: statements, loops and defs keep their tree meaning. -/
namespace Tr
open PySem L2
/-- what a statement may have changed; B: what was at hand -/
structure Step (W : Wd) (B : List Addr) (ρ : Env) (σ : L2.St) (H F : Hp) (As : Nat → List Addr) (ρ' : Env) (σ' : L2.St) (H' F' : Hp) (As' : Nat → List Addr) : Prop where
  st : Sta W ρ' σ' H' F' F' As'
  nl : NoLk ρ'
  keep : ∀ a o, H a = some o → (∀ i, a ∉ As i) → a ∉ B → H' a = some o
  dom : ∀ a, H' a = none → H a = none
  ff : Same F F'
  fn : ∀ a, F a = none → F' a ≠ none → H a = none ∨ (∃ i, a ∈ As i) ∨ a ∈ B
  an : ∀ i a, a ∈ As' i → H a = none ∨ (∃ j, a ∈ As j) ∨ a ∈ B
  tp : ∀ a vs, SqT W.K H a vs → SqT W.K H' a vs
  ln : σ'.length = σ.length
  pn : ∀ i : Nat, W.pin i = true → σ'[i]? = σ[i]?
/-- what is handed back -/
structure Ret (W : Wd) (ρ : Env) (σ : L2.St) (H F : Hp) (As : Nat → List Addr) (r : Val) (ρ' : Env) (v : V) (σ' : L2.St) (H' F' G' : Hp) (As' : Nat → List Addr) (B : List Addr) : Prop where
  st : Sta W ρ' σ' H' F' G' As'
  keep : ∀ a o, H a = some o → (∀ i, a ∉ As i) → H' a = some o
  dom : ∀ a, H' a = none → H a = none
  fg : Same F G'
  gn : ∀ a, F a = none → G' a ≠ none → H a = none ∨ ∃ i, a ∈ As i
  an : ∀ i a, a ∈ As' i → H a = none ∨ ∃ j, a ∈ As j
  rep : Rep W H' G' r.m r.d v B
  tmp : Tmp W σ' H' G' As' B
  org : ∀ b ∈ B, H b = none ∨ ∃ i, b ∈ As i
  pn : ∀ i : Nat, W.pin i = true → σ'[i]? = σ[i]?
def Fin (W : Wd) (ρ : Env) (σ : L2.St) (H F : Hp) (As : Nat → List Addr) (D : Ends) : Out → Prop
  | .nx ρ' => ∀ σ' H' F' As', Step W [] ρ σ H F As ρ' σ' H' F' As' → D.nx σ' H'
  | .bk ρ' => ∀ σ' H' F' As', Step W [] ρ σ H F As ρ' σ' H' F' As' → D.bk σ' H'
  | .ct ρ' => ∀ σ' H' F' As', Step W [] ρ σ H F As ρ' σ' H' F' As' → D.ct σ' H'
  | .rt r ρ' => ∀ v σ' H' F' G' As' B, Ret W ρ σ H F As r ρ' v σ' H' F' G' As' B → D.rt v H'
def SimS (W : Wd) (t : TS) (f : SS) : Prop :=
  ∀ (ρ : Env) (σ : L2.St) (H F : Hp) (As : Nat → List Addr) (D : Ends) (out : Out), Sta W ρ σ H F F As → NoLk ρ → f ρ = some out → Fin W ρ σ H F As D out → t D σ H
/-- vs: the slots that may be filled -/
def SimG (W : Wd) (vs : List Nat) (g : TG) (f : STg) : Prop :=
  ∀ (ρ : Env) (σ : L2.St) (H F : Hp) (As : Nat → List Addr) (r : Val) (v : V) (B : List Addr) (ρ' : Env) (Q : L2.St → Hp → Prop), Sta W ρ σ H F F As → NoLk ρ → Rep W H F r.m r.d v B → Tmp W σ H F As B → f r ρ = some ρ' →
    (∀ σ' H' F' As', Step W B ρ σ H F As ρ' σ' H' F' As' → (∀ j, j ∉ vs → σ'[j]? = σ[j]?) → Q σ' H') → g v σ H Q
def SimGs (W : Wd) (ws : List Nat) (g : TGs) (f : List D → Mode → Env → Option Env) : Prop :=
  ∀ (ρ : Env) (σ : L2.St) (H F : Hp) (As : Nat → List Addr) (ds : List D) (m : Mode) (vs : List V) (B : List Addr) (ρ' : Env) (Q : L2.St → Hp → Prop), Sta W ρ σ H F F As → NoLk ρ → Reps W H F m ds vs B → Tmp W σ H F As B → f ds m ρ = some ρ' →
    (∀ σ' H' F' As', Step W B ρ σ H F As ρ' σ' H' F' As' → (∀ j, j ∉ ws → σ'[j]? = σ[j]?) → Q σ' H') → g vs σ H Q
section
variable {W : Wd} {ρ ρ' ρ1 ρ2 : Env} {σ σ' σ1 σ2 : L2.St} {H F G H' F' G' H1 F1 G1 H2 F2 : Hp} {As As' As1 As2 : Nat → List Addr} {B : List Addr}
theorem Step.refl (S : Sta W ρ σ H F F As) (n : NoLk ρ) : Step W B ρ σ H F As ρ σ H F As :=
  ⟨S, n, fun _ _ e _ _ => e, fun _ e => e, Same.refl _, fun _ e q => absurd e q, fun i _ h => .inr (.inl ⟨i, h⟩), fun _ _ h => h, rfl, fun _ _ => rfl⟩
theorem Step.trans (p : Step W [] ρ σ H F As ρ1 σ1 H1 F1 As1) (q : Step W B ρ1 σ1 H1 F1 As1 ρ2 σ2 H2 F2 As2) (org : ∀ b ∈ B, H b = none ∨ ∃ i, b ∈ As i) : Step W [] ρ σ H F As ρ2 σ2 H2 F2 As2 where
  st := q.st
  nl := q.nl
  keep := fun a o e n _ => q.keep a o (p.keep a o e n (fun z => nomatch z)) (fun i h => by
    rcases p.an i a h with z | ⟨j, z⟩ | z
    · rw [e] at z; cases z
    · exact n j z
    · cases z) fun h => by
    rcases org a h with z | ⟨j, z⟩
    · rw [e] at z; cases z
    · exact n j z
  dom := fun a e => p.dom a (q.dom a e)
  ff := p.ff.trans q.ff
  fn := fun a e n => by
    cases z : F1 a with
    | some o => exact p.fn a e (by rw [z]; exact fun y => nomatch y)
    | none =>
      rcases q.fn a z n with y | ⟨i, y⟩ | y
      · exact .inl (p.dom a y)
      · exact p.an i a y
      · exact (org a y).elim .inl fun z => .inr (.inl z)
  an := fun i a h => by
    rcases q.an i a h with y | ⟨j, y⟩ | y
    · exact .inl (p.dom a y)
    · exact p.an j a y
    · exact (org a y).elim .inl fun z => .inr (.inl z)
  tp := fun a vs h => q.tp a vs (p.tp a vs h)
  ln := q.ln.trans p.ln
  pn := fun i h => (q.pn i h).trans (p.pn i h)
theorem nolkU (n : NoLk ρ) (S : Sta W ρ σ H F G As) {a : Addr} {i : Nat} (h : a ∈ As i) : Unl ρ As a := by
  obtain ⟨s, e⟩ := S.has h
  exact ⟨i, s, e, n i s e, h⟩
theorem freeze2_get : ∀ (ρ ρ' : Env), ρ.length = ρ'.length → ∀ i : Nat, (freeze2 ρ ρ')[i]? = (match ρ[i]?, ρ'[i]? with | some a, some b => some (frz2 a b) | _, b => b)
  | [], [], _, i => by simp [freeze2]
  | a :: ρ, b :: ρ', h, 0 => by simp [freeze2]
  | a :: ρ, b :: ρ', h, i + 1 => by
    have q := freeze2_get ρ ρ' (by simpa using h) i
    simpa [freeze2] using q
  | [], _ :: _, h, _ => by simp at h
  | _ :: _, [], h, _ => by simp at h
theorem freeze2_eq (S : Sta W ρ σ H F G As) (n : NoLk ρ) (p : Post W ρ σ H F G As ρ1 H1 G1 As1) : freeze2 ρ ρ1 = freeze ρ1 := by
  have hl : ρ.length = ρ1.length := S.len.trans p.st.len.symm
  apply List.ext_getElem?
  intro i
  rw [freeze2_get _ _ hl]
  unfold freeze
  rw [List.getElem?_map]
  cases e1 : ρ[i]? with
  | none =>
    have q : ρ1[i]? = none := List.getElem?_eq_none (by rw [← hl]; simpa using e1)
    rw [q]
    rfl
  | some x =>
    cases e2 : ρ1[i]? with
    | none => rfl
    | some y =>
      cases x with
      | none =>
        rw [p.nw i e1] at e2
        cases e2
        rfl
      | some a =>
        cases y with
        | none => rfl
        | some b =>
          have la := n i a e1
          simp only [frz2, frz1, la, Option.map_some]
          cases b.lk <;> simp
theorem settleF_ok (S : Sta W ρ σ H F F As) (n : NoLk ρ) (p : Post W ρ σ H F F As ρ1 H1 G1 As1) :
    ∃ As', Step W [] ρ σ H F As (freeze ρ1) σ H1 G1 As' ∧ ∀ i a, a ∈ As' i → a ∈ As1 i := by
  have kp : ∀ a o, H a = some o → (∀ i, a ∉ As i) → a ∉ ([] : List Addr) → H1 a = some o := fun a o e q _ => p.keep a o e fun ⟨i, s, _, _, z⟩ => q i z
  have get : ∀ (i : Nat) (s : Slot), (freeze ρ1)[i]? = some (some s) → ∃ b, ρ1[i]? = some (some b) ∧ ((b.lk = true ∧ s = ⟨.F, false, b.d⟩) ∨ (b.lk = false ∧ s = b)) := fun i s e => by
    unfold freeze at e
    rw [List.getElem?_map] at e
    cases e1 : ρ1[i]? with
    | none => rw [e1] at e; cases e
    | some x =>
      rw [e1] at e
      cases x with
      | none => cases e
      | some b =>
        refine ⟨b, rfl, ?_⟩
        cases hb : b.lk with
        | true =>
          simp [frz1, hb] at e
          exact .inl ⟨rfl, e.symm⟩
        | false =>
          simp [frz1, hb] at e
          exact .inr ⟨rfl, e.symm⟩
  have put : ∀ (i : Nat) (b : Slot), ρ1[i]? = some (some b) → ∃ s, (freeze ρ1)[i]? = some (some s) := fun i b e => by
    unfold freeze
    rw [List.getElem?_map, e]
    cases hb : b.lk <;> simp [frz1, hb]
  let lkd : Nat → Bool := fun i => match ρ1[i]? with
    | some (some s) => s.lk
    | _ => false
  let As2 : Nat → List Addr := fun i => if lkd i then [] else As1 i
  have sub : ∀ i a, a ∈ As2 i → a ∈ As1 i ∧ lkd i = false := fun i a h => by
    by_cases q : lkd i = true
    · have e : As2 i = [] := if_pos q
      rw [e] at h; cases h
    · have e : As2 i = As1 i := if_neg q
      rw [e] at h
      exact ⟨h, by simpa using q⟩
  have lkdOf : ∀ (i : Nat) (b : Slot), ρ1[i]? = some (some b) → lkd i = b.lk := fun i b e => by
    show (match ρ1[i]? with | some (some s) => s.lk | _ => false) = b.lk
    rw [e]
  have st : Sta W (freeze ρ1) σ H1 G1 G1 As2 := by
    refine ⟨by unfold freeze; rw [List.length_map]; exact p.st.len, fun i s e => ?_, fun i s e l => ?_, fun i s e l a ha => ?_, fun i h => ?_, fun i => ?_, fun i j a h1 h2 => p.st.dj i j a (sub i a h1).1 (sub j a h2).1, fun i a h => ?_, Same.refl _, p.st.gh⟩
    · obtain ⟨b, e1, q⟩ := get i s e
      obtain ⟨v, hv, rb⟩ := p.st.slot i b e1
      refine ⟨v, hv, ?_⟩
      rcases q with ⟨hl, rfl⟩ | ⟨hl, rfl⟩
      · have ea : As2 i = [] := if_pos ((lkdOf i b e1).trans hl)
        rw [ea]
        exact rb.froze p.st.fg (p.st.lock i b e1 hl)
      · have ea : As2 i = As1 i := if_neg (by rw [lkdOf i _ e1, hl]; exact Bool.false_ne_true)
        rw [ea]
        exact rb.mono (fun _ _ z => z) p.st.fg fun _ _ _ z => z
    · obtain ⟨b, e1, q⟩ := get i s e
      rcases q with ⟨hl, rfl⟩ | ⟨hl, rfl⟩
      · cases l
      · rw [hl] at l; cases l
    · obtain ⟨b, e1, q⟩ := get i s e
      obtain ⟨m1, m2⟩ := sub i a ha
      exact p.st.free i b e1 ((lkdOf i b e1).symm.trans m2) a m1
    · have z := p.st.none i fun s z => by
        obtain ⟨t, q⟩ := put i s z
        exact h t q
      show (if lkd i then [] else As1 i) = []
      rw [z]
      simp
    · show (if lkd i then [] else As1 i).Nodup
      split
      · exact List.nodup_nil
      · exact p.st.nd i
    · obtain ⟨m1, m2⟩ := sub i a h
      obtain ⟨b, e1⟩ := p.st.has m1
      exact p.st.free i b e1 ((lkdOf i b e1).symm.trans m2) a m1
  refine ⟨As2, ⟨st, fun i s e => ?_, kp, p.dom, p.gg, fun a e q => (p.gn a e q).elim .inl fun z => .inr (.inl z), fun i a h => (p.an i a (sub i a h).1).elim (fun z => .inr (.inl z)) .inl, p.tups S, rfl, fun _ _ => rfl⟩, fun i a h => (sub i a h).1⟩
  obtain ⟨b, e1, q⟩ := get i s e
  rcases q with ⟨hl, rfl⟩ | ⟨hl, rfl⟩
  · rfl
  · exact hl

/-- the end of a statement that is one expression -/
theorem settle_ok {r : Val} {v : V} (S : Sta W ρ σ H F F As) (n : NoLk ρ) (p : Post W ρ σ H F F As ρ1 H1 G1 As1) (rep : Rep W H1 G1 r.m r.d v B) (t : Tmp W σ H1 G1 As1 B) (org : ∀ b ∈ B, H b = none ∨ ∃ i, b ∈ As i) :
    ∃ F' As', Step W [] ρ σ H F As (settle ρ r ρ1) σ H1 F' As' ∧ Rep W H1 F' r.m r.d v B ∧ Tmp W σ H1 F' As' B := by
  have kp : ∀ a o, H a = some o → (∀ i, a ∉ As i) → a ∉ ([] : List Addr) → H1 a = some o := fun a o e q _ => p.keep a o e fun ⟨i, s, _, _, z⟩ => q i z
  unfold settle
  split
  · rename_i hm
    have p2 := p.restore S
    exact ⟨F, As1, ⟨p2.st, restore_nolk S n p, kp, p.dom, Same.refl _, fun _ e q => absurd e q, fun i a h => (p.an i a h).elim (fun z => .inr (.inl z)) .inl, p.tups S, rfl, fun _ _ => rfl⟩, rep.anyG hm, t.back p.gg⟩
  · rw [freeze2_eq S n p]
    obtain ⟨As2, q, sub⟩ := settleF_ok S n p
    exact ⟨G1, As2, q, rep, ⟨t.nd, t.g, t.h, fun b hb i z => t.a b hb i (sub i b z)⟩⟩

/-- a slot is filled -/
theorem put_ok {r : Val} {v : V} {i : Nat} (hp : W.pin i = false) (S : Sta W ρ σ H F F As) (n : NoLk ρ) (rep : Rep W H F r.m r.d v B) (t : Tmp W σ H F As B) (e : setSlot ρ i r = some ρ') :
    Step W B ρ σ H F As ρ' (σ.set i (some v)) H F (fun j => if j = i then B else As j) := by
  have e2 : i < ρ.length ∧ ρ' = ρ.set i (some ⟨r.m, false, r.d⟩) := by
    unfold setSlot at e
    split at e
    · rename_i hs
      cases e
      exact ⟨hs, rfl⟩
    · cases e
  obtain ⟨hi, rfl⟩ := e2
  have get : ∀ (j : Nat) (s : Slot), (ρ.set i (some ⟨r.m, false, r.d⟩))[j]? = some (some s) → (j = i ∧ s = ⟨r.m, false, r.d⟩) ∨ (j ≠ i ∧ ρ[j]? = some (some s)) := fun j s h => by
    rw [get_set] at h
    split at h
    · rename_i q
      cases h
      exact .inl ⟨q.1, rfl⟩
    · rename_i q
      by_cases z : j = i
      · exact absurd ⟨z, hi⟩ q
      · exact .inr ⟨z, h⟩
  have sub : ∀ j a, a ∈ (fun j => if j = i then B else As j) j → (j = i ∧ a ∈ B) ∨ (j ≠ i ∧ a ∈ As j) := fun j a h => by
    by_cases q : j = i
    · simp only [if_pos q] at h; exact .inl ⟨q, h⟩
    · simp only [if_neg q] at h; exact .inr ⟨q, h⟩
  have nl : NoLk (ρ.set i (some ⟨r.m, false, r.d⟩)) := fun j s h => by
    rcases get j s h with ⟨_, rfl⟩ | ⟨_, e⟩
    · rfl
    · exact n j s e
  have st : Sta W (ρ.set i (some ⟨r.m, false, r.d⟩)) (σ.set i (some v)) H F F (fun j => if j = i then B else As j) := by
    refine ⟨by rw [List.length_set, List.length_set]; exact S.len, fun j s h => ?_, fun j s h l => ?_, fun j s h l a ha => ?_, fun j h => ?_, fun j => ?_, fun j1 j2 a h1 h2 => ?_, fun j a h => ?_, S.fg, S.gh⟩
    · rcases get j s h with ⟨rfl, rfl⟩ | ⟨q, e⟩
      · refine ⟨v, by rw [List.getElem?_set_self (S.len ▸ hi)], ?_⟩
        simp only [if_pos]
        exact rep
      · obtain ⟨u, hu, ru⟩ := S.slot j s e
        refine ⟨u, by rw [List.getElem?_set_ne (Ne.symm q)]; exact hu, ?_⟩
        simp only [if_neg q]
        exact ru
    · rw [nl j s h] at l
      cases l
    · rcases sub j a ha with ⟨rfl, q⟩ | ⟨_, q⟩
      · exact t.g a q
      · exact S.fo j a q
    · have q : j ≠ i := fun z => h ⟨r.m, false, r.d⟩ (by rw [z, List.getElem?_set_self hi])
      simp only [if_neg q]
      exact S.none j fun s z => h s (by rw [List.getElem?_set_ne (Ne.symm q)]; exact z)
    · by_cases q : j = i
      · simp only [if_pos q]; exact t.nd
      · simp only [if_neg q]; exact S.nd j
    · rcases sub j1 a h1 with ⟨e1, q1⟩ | ⟨e1, q1⟩ <;> rcases sub j2 a h2 with ⟨e2, q2⟩ | ⟨e2, q2⟩
      · exact e1.trans e2.symm
      · exact absurd q2 (t.a a q1 j2)
      · exact absurd q1 (t.a a q2 j1)
      · exact S.dj _ _ _ q1 q2
    · rcases sub j a h with ⟨_, q⟩ | ⟨_, q⟩
      · exact t.g a q
      · exact S.fo j a q
  refine ⟨st, nl, fun _ _ e _ _ => e, fun _ e => e, Same.refl _, fun _ e q => absurd e q, fun j a h => ?_, fun _ _ h => h, List.length_set, fun j hj => by
    rw [List.getElem?_set_ne]
    rintro rfl
    rw [hp] at hj
    cases hj⟩
  rcases sub j a h with ⟨_, q⟩ | ⟨_, q⟩
  · exact .inr (.inr q)
  · exact .inr (.inl ⟨j, q⟩)

theorem sim_gname (i : Nat) {ws : List Nat} (hi : i ∈ ws) (hp : W.pin i = false) : SimG W ws (gName i) (sGName i) := by
  intro ρ σ H F As r v B ρ' Q S n rep t e k
  exact k _ _ _ _ (put_ok hp S n rep t e) fun j hj => List.getElem?_set_ne (fun (z : i = j) => hj (z ▸ hi))
theorem sim_gnil {ws : List Nat} : SimGs W ws gNil sGNil := by
  intro ρ σ H F As ds m vs B ρ' Q S n rep t e k
  cases ds with
  | nil =>
    cases rep
    cases e
    exact ⟨rfl, k _ _ _ _ (Step.refl S n) fun _ _ => rfl⟩
  | cons d ds => cases e
theorem sim_gcons {g : TG} {gs : TGs} {f : STg} {fs : List D → Mode → Env → Option Env} {ws : List Nat} (hg : SimG W ws g f) (hgs : SimGs W ws gs fs) : SimGs W ws (gCons g gs) (sGCons f fs) := by
  intro ρ σ H F As ds m vs B ρ' Q S n rep t e k
  cases rep with
  | nil => cases e
  | @cons _ d ds v vs A B r1 r2 =>
    simp only [sGCons] at e
    split at e
    case h_2 => cases e
    rename_i ρ1 e1
    have nd := List.nodup_append.mp t.nd
    have tA : Tmp W σ H F As A := ⟨nd.1, fun b hb => t.g b (List.mem_append_left _ hb), fun b hb => t.h b (List.mem_append_left _ hb), fun b hb => t.a b (List.mem_append_left _ hb)⟩
    refine ⟨v, vs, rfl, hg _ σ H F As _ v A _ _ S n r1.nrm tA e1 fun σ1 H1 F1 As1 p w1 => ?_⟩
    have kB : ∀ b ∈ B, ∀ o, H b = some o → H1 b = some o := fun b hb o eo => p.keep b o eo (fun i => t.a b (List.mem_append_right _ hb) i) fun z => nd.2.2 b z b hb rfl
    have tB : Tmp W σ1 H1 F1 As1 B := by
      refine ⟨nd.2.1, fun b hb => ?_, fun b hb e => t.h b (List.mem_append_right _ hb) (p.dom b e), fun b hb i z => ?_⟩
      · cases q : F1 b with
        | none => rfl
        | some o =>
          rcases p.fn b (t.g b (List.mem_append_right _ hb)) (by rw [q]; exact fun y => nomatch y) with y | ⟨i, y⟩ | y
          · exact absurd y (t.h b (List.mem_append_right _ hb))
          · exact absurd y (t.a b (List.mem_append_right _ hb) i)
          · exact absurd rfl (nd.2.2 b y b hb)
      · rcases p.an i b z with y | ⟨j, y⟩ | y
        · exact t.h b (List.mem_append_right _ hb) y
        · exact t.a b (List.mem_append_right _ hb) j y
        · exact nd.2.2 b y b hb rfl
    refine hgs _ σ1 H1 F1 As1 ds m vs B _ Q p.st p.nl (r2.mono p.tp p.ff kB) tB e fun σ2 H2 F2 As2 q w2 => k σ2 H2 F2 As2 ?_ fun j hj => (w2 j hj).trans (w1 j hj)
    refine ⟨q.st, q.nl, fun a o e z zB => q.keep a o (p.keep a o e z fun y => zB (List.mem_append_left _ y)) (fun i h => ?_) fun y => zB (List.mem_append_right _ y), fun a e => p.dom a (q.dom a e), p.ff.trans q.ff, fun a e z => ?_, fun i a h => ?_, fun a vs h => q.tp a vs (p.tp a vs h), q.ln.trans p.ln, fun i h => (q.pn i h).trans (p.pn i h)⟩
    · rcases p.an i a h with y | ⟨j, y⟩ | y
      · rw [e] at y; cases y
      · exact z j y
      · exact zB (List.mem_append_left _ y)
    · cases y : F1 a with
      | some o =>
        rcases p.fn a e (by rw [y]; exact fun q => nomatch q) with y | y | y
        · exact .inl y
        · exact .inr (.inl y)
        · exact .inr (.inr (List.mem_append_left _ y))
      | none =>
        rcases q.fn a y z with y | ⟨i, y⟩ | y
        · exact .inl (p.dom a y)
        · rcases p.an i a y with y | y | y
          · exact .inl y
          · exact .inr (.inl y)
          · exact .inr (.inr (List.mem_append_left _ y))
        · exact .inr (.inr (List.mem_append_right _ y))
    · rcases q.an i a h with y | ⟨j, y⟩ | y
      · exact .inl (p.dom a y)
      · rcases p.an j a y with y | y | y
        · exact .inl y
        · exact .inr (.inl y)
        · exact .inr (.inr (List.mem_append_left _ y))
      · exact .inr (.inr (List.mem_append_right _ y))
theorem sim_gtup {gs : TGs} {fs : List D → Mode → Env → Option Env} {ws : List Nat} {n : Nat} (hgs : SimGs W ws gs fs) (hn : ∀ ds m ρ ρ', fs ds m ρ = some ρ' → ds.length = n) : SimG W ws (gTup W.K n gs) (sGTup fs) := by
  intro ρ σ H F As r v B ρ' Q S nl rep t e k
  unfold sGTup at e
  split at e
  case h_2 => cases e
  rename_i ds e1
  obtain ⟨m, d⟩ := r
  simp only at e1 e
  subst e1
  cases rep with
  | @tup _ a vs _ _ hs rs => exact ⟨a, vs, rfl, hs, by rw [← rs.len]; exact hn _ _ _ _ e, hgs _ σ H F As ds m vs B _ _ S nl rs t e k⟩
theorem gnil_len : ∀ ds m (ρ ρ' : Env), sGNil ds m ρ = some ρ' → ds.length = 0
  | [], _, _, _, _ => rfl
  | _ :: _, _, _, _, e => by cases e
theorem gcons_len {g : STg} {gs : List D → Mode → Env → Option Env} {n : Nat} (h : ∀ ds m ρ ρ', gs ds m ρ = some ρ' → ds.length = n) : ∀ ds m (ρ ρ' : Env), sGCons g gs ds m ρ = some ρ' → ds.length = n + 1
  | [], _, _, _, e => by cases e
  | d :: ds, m, ρ, ρ', e => by
    simp only [sGCons] at e
    split at e
    · rw [List.length_cons, h _ _ _ _ e]
    · cases e
end
end Tr

/-! TrStm2: assignments, blocks, loops, defs. -/
namespace Tr
open PySem L2
section
variable {W : Wd} {ρ ρ' ρ1 ρ2 : Env} {σ σ' σ1 σ2 : L2.St} {H F G H' F' G' H1 F1 G1 H2 F2 : Hp} {As As' As1 As2 : Nat → List Addr} {B : List Addr}

theorem sim_asg {te : TE} {g : TG} {f : SE} {h : STg} {ws : List Nat} (hf : SimE W te f) (hg : SimG W ws g h) : SimS W (tAsg te g) (sAsg h f) := by
  intro ρ σ H F As D out S n e k
  unfold sAsg at e
  split at e
  case h_2 => cases e
  rename_i r ρ1 e1
  split at e
  case h_2 => cases e
  rename_i ρ2 e2
  cases e
  refine hf ρ σ H F F As _ _ _ S e1 fun v H1 G1 As1 B p rep t org => ?_
  obtain ⟨F2, As2, q, rep2, t2⟩ := settle_ok S n p rep t org
  exact hg _ σ H1 F2 As2 _ v B _ _ q.st q.nl rep2 t2 e2 fun σ3 H3 F3 As3 q3 _ => k σ3 H3 F3 As3 (q.trans q3 org)
theorem sim_set {te : TE} {f : SE} {i : Nat} (hf : SimE W te f) (hp : W.pin i = false) : SimS W (tAsg te (gName i)) (sSet i f) := sim_asg hf (sim_gname (ws := [i]) i (by simp) hp)

theorem repL_anyG : ∀ {rs : List Val} {vs : List V} {B : List Addr}, RepL W H G rs vs B → allO rs = true → RepL W H G' rs vs B
  | _, _, _, .nil, _ => .nil
  | _, _, _, .cons h r, k => by
    rw [allO, Bool.and_eq_true] at k
    exact .cons (h.anyG (of_decide_eq_true k.1)) (repL_anyG r k.2)
theorem settleL_ok {rs : List Val} {vs : List V} (S : Sta W ρ σ H F F As) (n : NoLk ρ) (p : Post W ρ σ H F F As ρ1 H1 G1 As1) (rep : RepL W H1 G1 rs vs B) (t : Tmp W σ H1 G1 As1 B) (org : ∀ b ∈ B, H b = none ∨ ∃ i, b ∈ As i) :
    ∃ F' As', Step W [] ρ σ H F As (if allO rs then restore ρ ρ1 else freeze2 ρ ρ1) σ H1 F' As' ∧ RepL W H1 F' rs vs B ∧ Tmp W σ H1 F' As' B := by
  have e : ∀ m, settle ρ ⟨m, .non⟩ ρ1 = if m = .O then restore ρ ρ1 else freeze2 ρ ρ1 := fun _ => rfl
  by_cases hm : allO rs = true
  · rw [if_pos hm]
    obtain ⟨F2, As2, q, _, t2⟩ := settle_ok (r := ⟨.O, .non⟩) (v := .non) (B := []) S n p (.non _) tmp_nil fun _ z => nomatch z
    rw [e, if_pos rfl] at q
    refine ⟨F, As1, ?_, repL_anyG rep hm, t.back p.gg⟩
    have p2 := p.restore S
    exact ⟨p2.st, q.nl, fun a o e n _ => p.keep a o e fun ⟨i, s, _, _, z⟩ => n i z, p.dom, Same.refl _, fun _ e q => absurd e q, fun i a h => (p.an i a h).elim (fun z => .inr (.inl z)) .inl, p.tups S, rfl, fun _ _ => rfl⟩
  · rw [if_neg hm, freeze2_eq S n p]
    have q := settleF_ok S n p
    obtain ⟨As2, q, sub⟩ := q
    exact ⟨G1, As2, q, rep, ⟨t.nd, t.g, t.h, fun b hb i z => t.a b hb i (sub i b z)⟩⟩

theorem sim_par {ta : TA} {fs : SA} {i j : Nat} (hf : SimA W ta fs) (hpi : W.pin i = false) (hpj : W.pin j = false) : SimS W (tPar i j ta) (sPar i j fs) := by
  intro ρ σ H F As D out S n e k
  unfold sPar at e
  split at e
  case h_2 => cases e
  rename_i r r2 ρ1 e1
  split at e
  case h_2 => cases e
  rename_i ρ2 e2
  split at e
  case h_2 => cases e
  rename_i ρ3 e3
  cases e
  refine hf ρ σ H F F As _ _ _ S e1 fun vs H1 G1 As1 B p rep t org => ?_
  obtain ⟨F2, As2, q, rep2, t2⟩ := settleL_ok S n p rep t org
  cases rep2 with
  | @cons _ _ v _ A1 B1 ra rb =>
    cases rb with
    | @cons _ _ w _ A2 B2 rb rc =>
      cases rc
      refine ⟨v, w, rfl, ?_⟩
      rw [List.append_nil] at t2 org
      have nd := List.nodup_append.mp t2.nd
      have tA : Tmp W σ H1 F2 As2 A1 := ⟨nd.1, fun b hb => t2.g b (List.mem_append_left _ hb), fun b hb => t2.h b (List.mem_append_left _ hb), fun b hb => t2.a b (List.mem_append_left _ hb)⟩
      have s1 := put_ok hpi q.st q.nl ra tA e2
      have tB : Tmp W (σ.set i (some v)) H1 F2 (fun j => if j = i then A1 else As2 j) A2 := by
        refine ⟨nd.2.1, fun b hb => t2.g b (List.mem_append_right _ hb), fun b hb => t2.h b (List.mem_append_right _ hb), fun b hb l z => ?_⟩
        by_cases y : l = i
        · simp only [if_pos y] at z
          exact nd.2.2 b z b hb rfl
        · simp only [if_neg y] at z
          exact t2.a b (List.mem_append_right _ hb) l z
      have s2 := put_ok hpj s1.st s1.nl rb tB e3
      exact k _ _ _ _ ((q.trans s1 fun b hb => org b (List.mem_append_left _ hb)).trans s2 fun b hb => org b (List.mem_append_right _ hb))

theorem sim_drop {te : TE} {f : SE} (hf : SimE W te f) : SimS W (tDrop te) (sDrop f) := by
  intro ρ σ H F As D out S n e k
  unfold sDrop at e
  split at e
  case h_2 => cases e
  rename_i r ρ1 e1
  cases e
  refine hf ρ σ H F F As _ _ _ S e1 fun v H1 G1 As1 B p rep t org => ?_
  obtain ⟨F2, As2, q, _, _⟩ := settle_ok (r := ⟨.O, .non⟩) (v := .non) (B := []) S n p (.non _) tmp_nil fun _ z => nomatch z
  exact k σ H1 F2 As2 q
theorem sim_ret {te : TE} {f : SE} (hf : SimE W te f) : SimS W (tRet te) (sRet f) := by
  intro ρ σ H F As D out S n e k
  unfold sRet at e
  split at e
  case h_2 => cases e
  rename_i r ρ1 e1
  cases e
  refine hf ρ σ H F F As _ _ _ S e1 fun v H1 G1 As1 B p rep t org => ?_
  exact k v σ H1 F G1 As1 B ⟨p.st, fun a o e n => p.keep a o e fun ⟨i, s, _, _, z⟩ => n i z, p.dom, p.gg, p.gn, fun i a h => (p.an i a h).elim .inr .inl, rep, t, org, fun _ _ => rfl⟩
theorem sim_retN : SimS W tRetN (sRet (sCon .non)) := by
  intro ρ σ H F As D out S n e k
  cases e
  exact k .non σ H F F As [] ⟨S, fun _ _ e _ => e, fun _ e => e, Same.refl _, fun _ e q => absurd e q, fun i a h => .inr ⟨i, h⟩, .non _, tmp_nil, (fun _ z => nomatch z), fun _ _ => rfl⟩
theorem sim_skip : SimS W tNext sSkip := by
  intro ρ σ H F As D out S n e k
  cases e
  exact k σ H F As (Step.refl S n)
theorem sim_break : SimS W tBreak sBreak := by
  intro ρ σ H F As D out S n e k
  cases e
  exact k σ H F As (Step.refl S n)
theorem sim_cont : SimS W tCont sCont := by
  intro ρ σ H F As D out S n e k
  cases e
  exact k σ H F As (Step.refl S n)
theorem sim_never : SimS W tNever sNever := by
  intro ρ σ H F As D out S n e k
  cases e

theorem Step.ret {r : Val} {v : V} {ρ3 : Env} {σ3 : L2.St} {H3 F3 G3 : Hp} {As3 : Nat → List Addr} (p : Step W [] ρ σ H F As ρ1 σ1 H1 F1 As1) (q : Ret W ρ1 σ1 H1 F1 As1 r ρ3 v σ3 H3 F3 G3 As3 B) : Ret W ρ σ H F As r ρ3 v σ3 H3 F3 G3 As3 B where
  st := q.st
  keep := fun a o e n => q.keep a o (p.keep a o e n (fun z => nomatch z)) fun i h => by
    rcases p.an i a h with z | ⟨j, z⟩ | z
    · rw [e] at z; cases z
    · exact n j z
    · cases z
  dom := fun a e => p.dom a (q.dom a e)
  fg := p.ff.trans q.fg
  gn := fun a e n => by
    cases z : F1 a with
    | some o =>
      rcases p.fn a e (by rw [z]; exact fun y => nomatch y) with y | y | y
      · exact .inl y
      · exact .inr y
      · cases y
    | none =>
      rcases q.gn a z n with y | ⟨i, y⟩
      · exact .inl (p.dom a y)
      · rcases p.an i a y with y | y | y
        · exact .inl y
        · exact .inr y
        · cases y
  an := fun i a h => by
    rcases q.an i a h with y | ⟨j, y⟩
    · exact .inl (p.dom a y)
    · rcases p.an j a y with y | y | y
      · exact .inl y
      · exact .inr y
      · cases y
  rep := q.rep
  tmp := q.tmp
  org := fun b hb => by
    rcases q.org b hb with y | ⟨j, y⟩
    · exact .inl (p.dom b y)
    · rcases p.an j b y with y | y | y
      · exact .inl y
      · exact .inr y
      · cases y
  pn := fun i h => (q.pn i h).trans (p.pn i h)
theorem Fin.trans {D : Ends} (p : Step W [] ρ σ H F As ρ1 σ1 H1 F1 As1) : ∀ {out : Out}, Fin W ρ σ H F As D out → Fin W ρ1 σ1 H1 F1 As1 D out
  | .nx ρ', k => fun σ' H' F' As' q => k σ' H' F' As' (p.trans q fun _ z => nomatch z)
  | .bk ρ', k => fun σ' H' F' As' q => k σ' H' F' As' (p.trans q fun _ z => nomatch z)
  | .ct ρ', k => fun σ' H' F' As' q => k σ' H' F' As' (p.trans q fun _ z => nomatch z)
  | .rt r ρ', k => fun v σ' H' F' G' As' B q => k v σ' H' F' G' As' B (p.ret q)
theorem sim_seq {t u : TS} {f g : SS} (hf : SimS W t f) (hg : SimS W u g) : SimS W (tSeq t u) (sSeq f g) := by
  intro ρ σ H F As D out S n e k
  unfold sSeq at e
  split at e
  · rename_i ρ1 e1
    refine hf ρ σ H F As _ _ S n e1 ?_
    intro σ1 H1 F1 As1 p
    exact hg _ σ1 H1 F1 As1 D out p.st p.nl e (k.trans p)
  · rename_i e1
    refine hf ρ σ H F As _ _ S n e ?_
    cases out with
    | nx ρ' => exact (e1 _ e).elim
    | bk ρ' => exact k
    | ct ρ' => exact k
    | rt r ρ' => exact k
/-- behind a test -/
theorem test_step {b : Bool} (S : Sta W ρ σ H F F As) (n : NoLk ρ) (p : Post W ρ σ H F F As ρ1 H1 F As1) (hl : NoLk ρ1) : Step W [] ρ σ H F As ρ1 σ H1 F As1 :=
  ⟨p.st, hl, fun a o e n _ => p.keep a o e fun ⟨i, s, _, _, z⟩ => n i z, p.dom, Same.refl _, fun _ e q => absurd e q, fun i a h => (p.an i a h).elim (fun z => .inr (.inl z)) .inl, p.tups S, rfl, fun _ _ => rfl⟩
theorem sim_if {c : TT} {t u : TS} {s : SB} {f g : SS} (hc : SimT W c s) (hf : SimS W t f) (hg : SimS W u g) : SimS W (tIfS c t u) (sIf s f g) := by
  intro ρ σ H F As D out S n e k
  unfold sIf at e
  split at e
  · rename_i ρ1 e1
    refine hc ρ σ H F F As _ _ _ S e1 fun H1 As1 p l => iteT ?_
    have q := test_step (b := true) S n p (l n)
    exact hf _ σ H1 F As1 D out p.st (l n) e (k.trans q)
  · rename_i ρ1 e1
    refine hc ρ σ H F F As _ _ _ S e1 fun H1 As1 p l => iteF ?_
    have q := test_step (b := true) S n p (l n)
    exact hg _ σ H1 F As1 D out p.st (l n) e (k.trans q)
  · cases e
theorem sim_while {c : TT} {t : TS} {s : SB} {f : SS} (hc : SimT W c s) (hf : SimS W t f) : SimS W (tWhile c t) (sWhile s f) := by
  intro ρ σ H F As D out S n e k
  obtain ⟨m0, e0⟩ := sWhile_iff.mp e
  refine ⟨fun m σ' H' => ∃ ρ' F' As', Step W [] ρ σ H F As ρ' σ' H' F' As' ∧ whileF s f m ρ' = some out, ⟨m0, ρ, F, As, Step.refl S n, e0⟩, ?_⟩
  rintro m σ' H' ⟨ρ', F', As', p, e1⟩
  cases m with
  | zero => cases e1
  | succ m =>
    rw [whileF] at e1
    cases e2 : s ρ' with
    | none => rw [e2] at e1; cases e1
    | some x =>
      obtain ⟨b, ρ1⟩ := x
      rw [e2] at e1
      refine hc ρ' σ' H' F' F' As' b ρ1 _ p.st e2 fun H1 As1 q l => ?_
      have q1 := p.trans (test_step (b := b) p.st p.nl q (l p.nl)) fun _ z => nomatch z
      cases b with
      | false =>
        cases e1
        exact iteF (k σ' H1 F' As1 q1)
      | true =>
        refine iteT ⟨fun σ2 H2 => ∃ ρ2 F2 As2, Step W [] ρ σ H F As ρ2 σ2 H2 F2 As2 ∧ whileF s f m ρ2 = some out, fun σ2 H2 z => ⟨m, Nat.lt_succ_self m, z⟩, ?_⟩
        cases e3 : f ρ1 with
        | none =>
          simp only [e3] at e1
          cases e1
        | some o =>
          simp only [e3] at e1
          refine hf ρ1 σ' H1 F' As1 _ o q1.st q1.nl e3 ?_
          cases o with
          | nx ρ2 => exact fun σ2 H2 F2 As2 r => ⟨ρ2, F2, As2, q1.trans r (fun _ z => nomatch z), e1⟩
          | ct ρ2 => exact fun σ2 H2 F2 As2 r => ⟨ρ2, F2, As2, q1.trans r (fun _ z => nomatch z), e1⟩
          | bk ρ2 =>
            cases e1
            exact fun σ2 H2 F2 As2 r => k σ2 H2 F2 As2 (q1.trans r fun _ z => nomatch z)
          | rt r ρ2 =>
            cases e1
            exact fun v σ2 H2 F2 G2 As2 B r => k v σ2 H2 F2 G2 As2 B (q1.ret r)

/-! ### what a for walks -/
structure Later (W : Wd) (G H0 H : Hp) : Prop where
  g : Same G H
  t : ∀ a vs, SqT W.K H0 a vs → SqT W.K H a vs
structure IterOk (W : Wd) (J : It) (G H0 : Hp) (ds : List D) : Prop where
  go : ∀ H i, Later W G H0 H → i < ds.length → J.go i H
  stop : ∀ H, Later W G H0 H → J.stop ds.length H
  yld : ∀ H i x H' d, Later W G H0 H → ds[i]? = some d → J.yld i H x H' → (∀ a o, H a = some o → H' a = some o) ∧ Rep W H' G .F d x []
def SimI (W : Wd) (wi : TI) (f : SI) : Prop :=
  ∀ (ρ : Env) (σ : L2.St) (H F G : Hp) (As : Nat → List Addr) (ds : List D) (ρ' : Env) (R : It → Hp → Prop), Sta W ρ σ H F G As → f ρ = some (ds, ρ') →
    (∀ J H' G' As', Post W ρ σ H F G As ρ' H' G' As' → IterOk W J G' H' ds → R J H') → wi σ H R
theorem Sta.grow (S : Sta W ρ σ H F F As) (h : ∀ a o, H a = some o → H' a = some o) : Sta W ρ σ H' F F As := by
  refine ⟨S.len, fun i s e => ?_, fun i s e l a ha => ?_, S.free, S.none, S.nd, S.dj, S.fo, S.fg, fun a o e => h a o (S.gh a o e)⟩
  · obtain ⟨v, hv, r⟩ := S.slot i s e
    exact ⟨v, hv, r.mono (S.tup fun a o e _ => h a o e) (Same.refl _) fun a _ o e => h a o e⟩
  · obtain ⟨o, eo, _⟩ := S.own ha
    have z := S.lock i s e l a ha
    rw [z, eo, h a o eo]
theorem grow_step (S : Sta W ρ σ H F F As) (n : NoLk ρ) (h : ∀ a o, H a = some o → H' a = some o) : Step W [] ρ σ H F As ρ σ H' F As :=
  ⟨S.grow h, n, fun a o e _ _ => h a o e, (fun a e => by
    cases q : H a with
    | none => rfl
    | some o => rw [h a o q] at e; cases e), Same.refl _, fun _ e q => absurd e q, fun i a z => .inr (.inl ⟨i, z⟩), (S.tup fun a o e _ => h a o e), rfl, fun _ _ => rfl⟩
theorem Step.later (p : Step W [] ρ σ H F As ρ1 σ1 H1 F1 As1) (S : Sta W ρ σ H F F As) (L : Later W F H H) : Later W F H H1 :=
  ⟨fun a o e => p.st.gh a o (p.ff a o e), fun a vs h => p.tp a vs h⟩
theorem sim_for {wi : TI} {g : TG} {t : TS} {s : SI} {gf : STg} {f : SS} {ws : List Nat} (hi : SimI W wi s) (hg : SimG W ws g gf) (hf : SimS W t f) : SimS W (tFor wi g t) (sFor s gf f) := by
  intro ρ σ H F As D out S n e k
  unfold sFor at e
  split at e
  case h_2 => cases e
  rename_i ds ρ1 e1
  refine hi ρ σ H F F As ds _ _ S e1 fun J H1 G1 As1 p ok => ?_
  obtain ⟨As2, q, _⟩ := settleF_ok S n p
  rw [freeze2_eq S n p] at e
  have k := k.trans q
  have S1 := q.st
  have n1 := q.nl
  clear q p
  refine ⟨fun i m σ' H' => m = ds.length - i ∧ i ≤ ds.length ∧ ∃ ρ' F' As', Step W [] (freeze ρ1) σ H1 G1 As2 ρ' σ' H' F' As' ∧ forGo gf f (ds.drop i) ρ' = some out,
    ⟨ds.length, by simp, Nat.zero_le _, freeze ρ1, G1, As2, Step.refl S1 n1, e⟩, ?_⟩
  rintro i m σ' H' ⟨rfl, hle, ρ', F', As', p, e2⟩
  have L : Later W G1 H1 H' := ⟨fun a o e => p.st.gh a o (p.ff a o e), p.tp⟩
  by_cases hlt : i < ds.length
  · refine .inr ⟨ok.go H' i L hlt, fun σ2 H2 => ∃ ρ2 F2 As2', Step W [] (freeze ρ1) σ H1 G1 As2 ρ2 σ2 H2 F2 As2' ∧ forGo gf f (ds.drop (i + 1)) ρ2 = some out, fun σ2 H2 z => ⟨ds.length - (i + 1), by omega, rfl, hlt, z⟩, fun x H2 y => ?_⟩
    obtain ⟨kp, rx⟩ := ok.yld H' i x H2 ds[i] L (by simp [hlt]) y
    have ed : ds.drop i = ds[i] :: ds.drop (i + 1) := List.drop_eq_getElem_cons hlt
    rw [ed, forGo] at e2
    split at e2
    case h_2 => cases e2
    rename_i ρ3 e3
    have q1 := p.trans (grow_step p.st p.nl kp) fun _ z => nomatch z
    refine hg ρ' σ' H2 F' As' _ x [] _ _ q1.st q1.nl ((rx.mono (fun _ _ z => z) p.ff fun _ z => nomatch z).nrm) tmp_nil e3 fun σ3 H3 F3 As3 r _ => ?_
    have q2 := q1.trans r fun _ z => nomatch z
    cases e4 : f ρ3 with
    | none =>
      simp only [e4] at e2
      cases e2
    | some o =>
      simp only [e4] at e2
      refine hf ρ3 σ3 H3 F3 As3 _ o q2.st q2.nl e4 ?_
      cases o with
      | nx ρ4 => exact fun σ4 H4 F4 As4 r => ⟨ρ4, F4, As4, q2.trans r (fun _ z => nomatch z), e2⟩
      | ct ρ4 => exact fun σ4 H4 F4 As4 r => ⟨ρ4, F4, As4, q2.trans r (fun _ z => nomatch z), e2⟩
      | bk ρ4 =>
        cases e2
        exact fun σ4 H4 F4 As4 r => k σ4 H4 F4 As4 (q2.trans r fun _ z => nomatch z)
      | rt r ρ4 =>
        cases e2
        exact fun v σ4 H4 F4 G4 As4 B r => k v σ4 H4 F4 G4 As4 B (q2.ret r)
  · have ei : i = ds.length := by omega
    subst ei
    rw [List.drop_length, forGo] at e2
    cases e2
    exact .inl ⟨ok.stop H' L, k σ' H' F' As' p⟩

/-! ### a def -/
def spPure (W : Wd) (n : Nat) (g : List D → Option Val) : Sp := fun vs H Q _ =>
  ∃ ds G r, ds.length = n ∧ Same G H ∧ Reps W H G .F ds vs [] ∧ g ds = some r ∧ ∀ v H' G' C, VPost W H G [] r v H' G' C → Q v H'
theorem spPure_len {n : Nat} {g : List D → Option Val} : ∀ vs H Q E, spPure W n g vs H Q E → vs.length = n := by
  rintro vs H Q E ⟨ds, G, r, hl, _, rp, _⟩
  rw [← rp.len]
  exact hl
theorem spPure_op {n : Nat} {g : List D → Option Val} {E : XK} (hn : ∀ ds, (g ds).isSome = true → ds.length = n) : VOp W (fun vs H Q => spPure W n g vs H Q E) (opFn g) := by
  intro H G rs vs A r Q gh rep nd ga e k
  have s1 : Same G (lookAt G H A) := lookAt_same ga
  have rf := rep.froze (G' := lookAt G H A) s1 fun a ha => lookAt_in ha
  refine ⟨rs.map fun (x : Val) => x.d, lookAt G H A, r, hn _ (by unfold opFn at e; rw [e]; rfl), lookAt_sub gh, rf, e, fun v H' G' C q => ?_⟩
  refine k v H' G' C ⟨q.keep, s1.trans q.gg, q.gh, fun a e1 e2 => ?_, q.rep, q.nd, q.cg, fun c hc => .inl ?_⟩
  · by_cases z : a ∈ A
    · exact .inr z
    · rcases q.gn a (by rw [lookAt_out z]; exact e1) e2 with y | y
      · exact .inl y
      · cases y
  · rcases q.cn c hc with y | y
    · exact y
    · cases y

def Env.start (n : Nat) (ds : List D) : Env := ds.map (fun d => some (par d)) ++ List.replicate (n - ds.length) none
theorem reps_get {m : Mode} : ∀ {ds : List D} {vs : List V} {A : List Addr} {i : Nat} {d : D}, Reps W H G m ds vs A → m = .F → ds[i]? = some d → ∃ v, vs[i]? = some v ∧ Rep W H G m d v []
  | _, _, _, _, _, .nil _, _, e => by cases e
  | _, _, _, 0, _, .cons (v := v) h r, hm, e => by
    cases e
    refine ⟨v, rfl, ?_⟩
    have z := h.Fnil hm
    subst z
    exact h
  | _, _, _, i + 1, _, .cons h r, hm, e => by
    obtain ⟨v, h1, h2⟩ := reps_get (i := i) r hm e
    exact ⟨v, h1, h2⟩
theorem rep_par {d : D} {v : V} {A : List Addr} (r : Rep W H G .F d v A) : Rep W H G (par d).m (par d).d v A := by
  have q := r.nrm
  have e : (nrm .F d).d = d := by unfold nrm; split <;> rfl
  rw [e] at q
  exact q
theorem start_sta {N : List Str} {ds : List D} {vs : List V} (hl : ds.length ≤ N.length) (gh : Same G H) (rp : Reps W H G .F ds vs []) : Sta W (Env.start N.length ds) (L2.start N vs) H G G (fun _ => []) ∧ NoLk (Env.start N.length ds) := by
  have el := rp.len
  have get : ∀ (i : Nat) (s : Slot), (Env.start N.length ds)[i]? = some (some s) → ∃ d, ds[i]? = some d ∧ s = par d := fun i s h => by
    unfold Env.start at h
    by_cases q : i < ds.length
    · rw [List.getElem?_append_left (by simpa using q), List.getElem?_map] at h
      refine ⟨ds[i], by simp [q], ?_⟩
      rw [List.getElem?_eq_getElem q] at h
      simp at h
      exact h.symm
    · rw [List.getElem?_append_right (by simpa using q)] at h
      rw [List.getElem?_replicate] at h
      split at h <;> cases h
  refine ⟨⟨?_, fun i s h => ?_, fun _ _ _ _ _ z => (nomatch z), fun _ _ _ _ _ z => (nomatch z), fun _ _ => rfl, fun _ => List.nodup_nil, fun _ _ _ z => (nomatch z), fun _ _ z => (nomatch z), Same.refl _, gh⟩, fun i s h => ?_⟩
  · unfold Env.start L2.start
    simp only [List.length_append, List.length_map, List.length_replicate]
    rw [el]
  · obtain ⟨d, e, rfl⟩ := get i s h
    obtain ⟨v, hv, r⟩ := reps_get rp rfl e
    refine ⟨v, ?_, rep_par r⟩
    unfold L2.start
    have q : i < vs.length := lt_of_get hv
    rw [List.getElem?_append_left (by simpa using q), List.getElem?_map, hv]
    rfl
  · obtain ⟨d, e, rfl⟩ := get i s h
    rfl
/-- a def's body, from its parameters -/
theorem body_ok {N : List Str} {t : TS} {b : SS} {vs : List V} {Q : VK} {E : XK} {n : Nat} (hb : SimS W t b) (hn : n ≤ N.length) (h : spPure W n (fnSem n N.length b) vs H Q E) : t { nx := fun _ H' => Q .non H', rt := Q } (L2.start N vs) H := by
  obtain ⟨ds, G, r, hl, gh, rp, e, k⟩ := h
  obtain ⟨S, nl⟩ := start_sta (N := N) (ds := ds) (by omega) gh rp
  unfold fnSem at e
  rw [if_pos hl] at e
  split at e
  · rename_i r1 ρ1 e1
    cases e
    refine hb _ _ H G _ _ _ S nl e1 ?_
    intro v σ' H' F' G' As' B q
    refine k v H' G' B ⟨fun a o e => q.keep a o e fun _ z => (nomatch z), q.fg, q.st.gh, fun a e n => ?_, q.rep, q.tmp.nd, q.tmp.g, fun c hc => ?_⟩
    · rcases q.gn a e n with y | ⟨_, y⟩
      · exact .inl y
      · cases y
    · rcases q.org c hc with y | ⟨_, y⟩
      · exact .inl y
      · cases y
  · rename_i ρ1 e1
    cases e
    refine hb _ _ H G _ _ _ S nl e1 ?_
    intro σ' H' F' As' q
    refine k .non H' F' [] ⟨fun a o e => q.keep a o e (fun _ z => (nomatch z)) fun z => (nomatch z), q.ff, q.st.gh, fun a e n => ?_, .non _, List.nodup_nil, fun _ z => (nomatch z), fun _ z => (nomatch z)⟩
    rcases q.fn a e n with y | ⟨_, y⟩ | y
    · exact .inl y
    · cases y
    · cases y
  · cases e
theorem fnSem_len {np n : Nat} {b : SS} {ds : List D} (h : (fnSem np n b ds).isSome = true) : ds.length = np := by
  unfold fnSem at h
  split at h
  · assumption
  · cases h
end
/-! ### pins do not matter to what stands in the heap -/
section
variable {K : PySem.W.Frag} {cl : String → Addr} {p q : Nat → Bool} {H G : Hp}
mutual
theorem Rep.pin : ∀ {m : Mode} {d : D} {v : V} {A : List Addr}, Rep ⟨K, cl, p⟩ H G m d v A → Rep ⟨K, cl, q⟩ H G m d v A
  | _, _, _, _, .non m => .non m
  | _, _, _, _, .bl m b => .bl m b
  | _, _, _, _, .int m b => .int m b
  | _, _, _, _, .str m b => .str m b
  | _, _, _, _, .ty m b => .ty m b
  | _, _, _, _, .cl m b => .cl m b
  | _, _, _, _, .exc m b => .exc m b
  | _, _, _, _, .tup h r => .tup h (Reps.pin r)
  | _, _, _, _, .lstF h r => .lstF h (Reps.pin r)
  | _, _, _, _, .lstS h r => .lstS h (Reps.pin r)
  | _, _, _, _, .lstO h r => .lstO h (Reps.pin r)
  | _, _, _, _, .scr h => .scr h
  | _, _, _, _, .insF h r => .insF h (Repf.pin r)
  | _, _, _, _, .insS h r => .insS h (Repf.pin r)
  | _, _, _, _, .insO h r => .insO h (Repf.pin r)
theorem Reps.pin : ∀ {m : Mode} {d : List D} {v : List V} {A : List Addr}, Reps ⟨K, cl, p⟩ H G m d v A → Reps ⟨K, cl, q⟩ H G m d v A
  | _, _, _, _, .nil m => .nil m
  | _, _, _, _, .cons h r => .cons (Rep.pin h) (Reps.pin r)
theorem Repf.pin : ∀ {m : Mode} {d : List (Str × D)} {v : List (Str × V)} {A : List Addr}, Repf ⟨K, cl, p⟩ H G m d v A → Repf ⟨K, cl, q⟩ H G m d v A
  | _, _, _, _, .nil m => .nil m
  | _, _, _, _, .cons h r => .cons (Rep.pin h) (Repf.pin r)
end
theorem spPure_pin {n : Nat} {g : List D → Option Val} {vs : List V} {Q : VK} {E : XK} (h : spPure ⟨K, cl, p⟩ n g vs H Q E) : spPure ⟨K, cl, q⟩ n g vs H Q E := by
  obtain ⟨ds, G, r, hl, gh, rp, e, k⟩ := h
  exact ⟨ds, G, r, hl, gh, rp.pin, e, fun v H' G' C z => k v H' G' C ⟨z.keep, z.gg, z.gh, z.gn, z.rep.pin, z.nd, z.cg, z.cn⟩⟩
end
end Tr

/-! TrVal: the built-in operations on values keep their tree meaning. -/
namespace Tr
open PySem L2
section
variable {W : Wd} {H G H' G' : Hp} {A B C : List Addr} {r : Val} {v : V}

theorem vpost_same {d : D} (gh : Same G H) (rep : Rep W H G .O d v []) : VPost W H G A ⟨.O, d⟩ v H G [] :=
  ⟨fun _ _ e => e, Same.refl _, gh, fun _ e n => absurd e n, rep, List.nodup_nil, fun _ z => (nomatch z), fun _ z => (nomatch z)⟩
theorem upd_keep {p : Addr} {u : HO} (hp : H p = none) : ∀ a o, H a = some o → upd H p u a = some o := fun a o e => by
  rw [upd_ne (ne_of_none e hp)]
  exact e
theorem seqT_keep (k : ∀ a o, H a = some o → H' a = some o) : ∀ a vs, SqT W.K H a vs → SqT W.K H' a vs := fun a vs h => by
  rcases h with (h | ⟨o, h⟩) | h
  · exact .inl (.inl (k _ _ h))
  · exact .inl (.inr ⟨o, k _ _ h⟩)
  · exact .inr h
theorem repL1 {r : Val} {vs : List V} (h : RepL W H G [r] vs A) : ∃ v, vs = [v] ∧ Rep W H G r.m r.d v A := by
  cases h with
  | cons h t =>
    cases t
    exact ⟨_, rfl, by rw [List.append_nil]; exact h⟩
theorem repL2 {r s : Val} {vs : List V} (h : RepL W H G [r, s] vs A) : ∃ v u A1 A2, vs = [v, u] ∧ A = A1 ++ A2 ∧ Rep W H G r.m r.d v A1 ∧ Rep W H G s.m s.d u A2 := by
  cases h with
  | cons h t =>
    obtain ⟨u, rfl, h2⟩ := repL1 t
    exact ⟨_, _, _, _, rfl, rfl, h, h2⟩
theorem rep_int {m : Mode} {i : Int} (h : Rep W H G m (.int i) v A) : v = .int i ∧ A = [] := by cases h; exact ⟨rfl, rfl⟩
theorem rep_bl {m : Mode} {i : Bool} (h : Rep W H G m (.bl i) v A) : v = .bl i ∧ A = [] := by cases h; exact ⟨rfl, rfl⟩
theorem rep_str {m : Mode} {i : Str} (h : Rep W H G m (.str i) v A) : v = .str i ∧ A = [] := by cases h; exact ⟨rfl, rfl⟩
theorem rep_non {m : Mode} (h : Rep W H G m .non v A) : v = .non ∧ A = [] := by cases h; exact ⟨rfl, rfl⟩

/-! ### ints -/
theorem vop_ii {R : R2} {g : List Val → Option Val} (c : Int → Int → Prop) (f : Int → Int → D) (fv : Int → Int → V) (hg : ∀ rs r, g rs = some r → ∃ m n i j, rs = [⟨m, .int i⟩, ⟨n, .int j⟩] ∧ c i j ∧ r = ⟨.O, f i j⟩)
    (hf : ∀ i j H G, Rep W H G .O (f i j) (fv i j) []) (hr : ∀ i j H Q, c i j → Q (fv i j) H → R (.int i) (.int j) H Q) : VOp W (rr2 R) g := by
  intro H G rs vs A r Q gh rep nd ga e k
  obtain ⟨m, n, i, j, rfl, hc, rfl⟩ := hg rs r e
  obtain ⟨v, u, A1, A2, rfl, rfl, h1, h2⟩ := repL2 rep
  obtain ⟨rfl, rfl⟩ := rep_int h1
  obtain ⟨rfl, rfl⟩ := rep_int h2
  exact hr i j H Q hc (k _ H G [] (vpost_same gh (hf i j H G)))
theorem VOp.or {R R' : R2} {g : List Val → Option Val} (h : VOp W (rr2 fun x y H Q => R x y H Q ∨ R' x y H Q) g) : VOp W (rr2 fun x y H Q => R x y H Q ∨ R' x y H Q) g := h

theorem vop_sub : VOp W (rr2 (rI0 fun i j => .int (i - j))) opSub :=
  vop_ii (fun _ _ => True) (fun i j => .int (i - j)) (fun i j => .int (i - j)) (fun rs r e => by
    unfold opSub at e
    split at e
    · cases e; exact ⟨_, _, _, _, rfl, trivial, rfl⟩
    · cases e) (fun i j H G => .int _ _) fun i j H Q _ q => ⟨i, j, rfl, rfl, q⟩
theorem vop_mod : VOp W (rr2 (rI (fun _ j => j ≠ 0) fun i j => .int (i.fmod j))) opMod :=
  vop_ii (fun _ j => j ≠ 0) (fun i j => .int (i.fmod j)) (fun i j => .int (i.fmod j)) (fun rs r e => by
    unfold opMod at e
    split at e
    · split at e
      · cases e
      · rename_i h
        cases e
        exact ⟨_, _, _, _, rfl, h, rfl⟩
    · cases e) (fun i j H G => .int _ _) fun i j H Q c q => ⟨i, j, rfl, rfl, c, q⟩
def CDivZ (_ j : Int) : Prop := j ≠ 0 ∧ j.natAbs.log2 < 9000
theorem op_fdivZ {X : Cx} : OpR X (binaryOp .FloorDiv) (rI CDivZ fun i j => .int (i.fdiv j)) := opI fun _ _ _ _ _ _ _ hc q => PyProof.Rows.floordiv_int hc.1 q (.inl (PyProof.noPylong_of_log2 hc.2))
theorem vop_div : VOp W (rr2 (rI CDivZ fun i j => .int (i.fdiv j))) opDiv :=
  vop_ii CDivZ (fun i j => .int (i.fdiv j)) (fun i j => .int (i.fdiv j)) (fun rs r e => by
    unfold opDiv at e
    split at e
    · split at e
      · rename_i h
        cases e
        exact ⟨_, _, _, _, rfl, of_ok h, rfl⟩
      · cases e
    · cases e) (fun i j H G => .int _ _) fun i j H Q c q => ⟨i, j, rfl, rfl, c, q⟩
theorem vop_pow : VOp W (rr2 (rI CPow fun i j => .int (i ^ j.toNat))) opPow :=
  vop_ii CPow (fun i j => .int (i ^ j.toNat)) (fun i j => .int (i ^ j.toNat)) (fun rs r e => by
    unfold opPow at e
    split at e
    · split at e
      · rename_i h
        cases e
        exact ⟨_, _, _, _, rfl, of_ok h, rfl⟩
      · cases e
    · cases e) (fun i j H G => .int _ _) fun i j H Q c q => ⟨i, j, rfl, rfl, c, q⟩
theorem vop_cmp {p : Int → Int → Bool} : VOp W (rr2 (rI0 fun i j => .bl (p i j))) (opCmp p) :=
  vop_ii (fun _ _ => True) (fun i j => .bl (p i j)) (fun i j => .bl (p i j)) (fun rs r e => by
    unfold opCmp at e
    split at e
    · cases e; exact ⟨_, _, _, _, rfl, trivial, rfl⟩
    · cases e) (fun i j H G => .bl _ _) fun i j H Q _ q => ⟨i, j, rfl, rfl, q⟩
theorem vop_lt : VOp W (rr2 (rI0 fun i j => .bl (decide (i < j)))) opLt := vop_cmp
theorem vop_le : VOp W (rr2 (rI0 fun i j => .bl (decide (i ≤ j)))) opLe := vop_cmp
theorem vop_gt : VOp W (rr2 (rI0 fun i j => .bl (decide (j < i)))) opGt := vop_cmp
theorem vop_ge : VOp W (rr2 (rI0 fun i j => .bl (decide (j ≤ i)))) opGe := vop_cmp
theorem vop_neg : VOp W (rr1 (rU fun i => .int (-i))) opNeg := by
  intro H G rs vs A r Q gh rep nd ga e k
  unfold opNeg at e
  split at e
  · cases e
    obtain ⟨v, rfl, h1⟩ := repL1 rep
    obtain ⟨rfl, rfl⟩ := rep_int h1
    exact ⟨_, rfl, k _ H G [] (vpost_same gh (.int _ _))⟩
  · cases e

/-! ### lists -/
/-- a list as it stands, its items looked at -/
theorem rep_lst {m : Mode} {xs : List D} (gh : Same G H) (h : Rep W H G m (.lst xs) v A) (hG : Same G G') (hA : ∀ a ∈ A, G' a = H a) : ∃ a vs, v = .ref a ∧ H a = some (.lst vs) ∧ Reps W H G' .F xs vs [] := by
  cases h with
  | lstF h r => exact ⟨_, _, rfl, gh _ _ h, r.froze hG fun _ z => nomatch z⟩
  | lstS h r => exact ⟨_, _, rfl, h, r.froze hG fun _ z => nomatch z⟩
  | lstO h r => exact ⟨_, _, rfl, h, r.froze hG fun a z => hA a (List.mem_cons_of_mem _ z)⟩
theorem rep_tup {m : Mode} {xs : List D} (h : Rep W H G m (.tup xs) v A) : ∃ a vs, v = .ref a ∧ SqT W.K H a vs ∧ Reps W H G m xs vs A := by
  cases h with
  | tup h r => exact ⟨_, _, rfl, h, r⟩
theorem reps_append {m : Mode} : ∀ {xs ys : List D} {vs us : List V} {A B : List Addr}, Reps W H G m xs vs A → Reps W H G m ys us B → Reps W H G m (xs ++ ys) (vs ++ us) (A ++ B)
  | _, _, _, _, _, _, .nil _, q => q
  | _, _, _, _, _, _, .cons h r, q => by
    rw [List.append_assoc]
    exact .cons h (reps_append r q)
theorem reps_F {m : Mode} {ds : List D} {vs : List V} {A : List Addr} (h : Reps W H G m ds vs A) (e : m = .F) : Reps W H G m ds vs [] := by
  have z := h.Fnil e
  subst z
  exact h
theorem reps_rep {xs : List D} {vs : List V} (h : Reps W H G .F xs vs []) : ∀ n : Nat, Reps W H G .F (List.replicate n xs).flatten (List.replicate n vs).flatten []
  | 0 => .nil _
  | n + 1 => by
    rw [List.replicate_succ, List.replicate_succ, List.flatten_cons, List.flatten_cons]
    exact reps_append h (reps_rep h n)
theorem reps_drop : ∀ {xs : List D} {vs : List V} {A : List Addr} (n : Nat), Reps W H G .F xs vs A → Reps W H G .F (xs.drop n) (vs.drop n) []
  | _, _, _, 0, h => reps_F h rfl
  | _, _, _, _ + 1, .nil _ => .nil _
  | _, _, _, n + 1, .cons h r => reps_drop n r
theorem reps_take : ∀ {xs : List D} {vs : List V} {A : List Addr} (n : Nat), Reps W H G .F xs vs A → Reps W H G .F (xs.take n) (vs.take n) []
  | _, _, _, 0, h => .nil _
  | _, _, _, _ + 1, .nil _ => .nil _
  | _, _, _, n + 1, .cons h r => by
    have y := h.Fnil rfl
    subst y
    exact .cons (A := []) (B := []) h (reps_take n r)
theorem bitOk_iff {a b : Int} : bitOk a b = true ↔ CMulW a b := by
  unfold bitOk CMulW
  exact ok_iff
/-- a new list, its items looked at -/
theorem vpost_new {xs : List D} {vs : List V} (gh : Same G H) (ga : ∀ a ∈ A, G a = none) {p : Addr} (hp : H p = none) (rp : Reps W H (lookAt G H A) .F xs vs []) :
    ∃ G', VPost W H G A (mkL xs) (.ref p) (upd H p (.lst vs)) G' [p] := by
  have kp := upd_keep (u := .lst vs) hp
  by_cases f : D.flats xs = true
  · obtain ⟨_, q⟩ := rp.flat f
    refine ⟨G, kp, Same.refl _, fun a o e => kp a o (gh a o e), fun _ e n => absurd e n, ?_, by simp, fun c hc => ?_, fun c hc => .inl ?_⟩
    · have e : mkL xs = ⟨.O, .lst xs⟩ := by unfold mkL; rw [if_pos f]
      rw [e]
      exact .lstO (A := []) upd_same ((q .O G).mono (seqT_keep kp) (Same.refl _) fun _ z => nomatch z)
    · rw [List.mem_singleton] at hc
      subst hc
      cases z : G c with
      | none => rfl
      | some o => rw [gh c o z] at hp; cases hp
    · rw [List.mem_singleton] at hc
      subst hc
      exact hp
  · refine ⟨lookAt G H A, kp, lookAt_same ga, fun a o e => kp a o (lookAt_sub gh a o e), fun a e n => ?_, ?_, by simp, fun c hc => ?_, fun c hc => .inl ?_⟩
    · by_cases z : a ∈ A
      · exact .inr z
      · rw [lookAt_out z] at n
        exact absurd e n
    · have e : mkL xs = ⟨.S, .lst xs⟩ := by unfold mkL; rw [if_neg f]
      rw [e]
      exact .lstS upd_same (rp.mono (seqT_keep kp) (Same.refl _) fun _ z => nomatch z)
    · rw [List.mem_singleton] at hc
      subst hc
      cases z : lookAt G H A c with
      | none => rfl
      | some o => rw [lookAt_sub gh c o z] at hp; cases hp
    · rw [List.mem_singleton] at hc
      subst hc
      exact hp
def rAdd3 : R2 := fun x y H Q => (rI0 (fun i j => .int (i + j)) x y H Q ∨ (∃ i j, x = .str i ∧ y = .str j ∧ i.length + j.length ≤ sizeLine ∧ Q (.str (i ++ j)) H)) ∨ rCat x y H Q
theorem op_add3 {X : Cx} : OpR X (binaryOp .Add) rAdd3 := (op_add.or op_add_str).or op_cat
theorem vop_add : VOp W (rr2 rAdd3) opAdd := by
  intro H G rs vs A r Q gh rep nd ga e k
  unfold opAdd at e
  split at e
  · cases e
    obtain ⟨v, u, A1, A2, rfl, rfl, h1, h2⟩ := repL2 rep
    obtain ⟨rfl, rfl⟩ := rep_int h1
    obtain ⟨rfl, rfl⟩ := rep_int h2
    exact .inl (.inl ⟨_, _, rfl, rfl, k _ H G [] (vpost_same gh (.int _ _))⟩)
  · split at e
    · rename_i hl
      cases e
      obtain ⟨v, u, A1, A2, rfl, rfl, h1, h2⟩ := repL2 rep
      obtain ⟨rfl, rfl⟩ := rep_str h1
      obtain ⟨rfl, rfl⟩ := rep_str h2
      exact .inl (.inr ⟨_, _, rfl, rfl, of_ok hl, k _ H G [] (vpost_same gh (.str _ _))⟩)
    · cases e
  · split at e
    · rename_i hl
      cases e
      obtain ⟨v, u, A1, A2, rfl, rfl, h1, h2⟩ := repL2 rep
      obtain ⟨a, xs, rfl, ha, ra⟩ := rep_lst gh h1 (lookAt_same ga) fun a z => lookAt_in (List.mem_append_left _ z)
      obtain ⟨b, ys, rfl, hb, rb⟩ := rep_lst gh h2 (lookAt_same ga) fun a z => lookAt_in (List.mem_append_right _ z)
      refine .inr ⟨a, b, xs, ys, rfl, rfl, ha, hb, by rw [← ra.len, ← rb.len]; exact of_ok hl, fun p hp => ?_⟩
      obtain ⟨G', q⟩ := vpost_new gh ga hp (reps_append ra rb)
      exact k _ _ _ _ q
    · cases e
  · cases e
def rMul3 : R2 := fun x y H Q => rI CMulW (fun i j => .int (i * j)) x y H Q ∨ rRep x y H Q
theorem op_mul3 {X : Cx} : OpR X (binaryOp .Mult) rMul3 := op_mulW.or op_rep
theorem vop_mul : VOp W (rr2 rMul3) opMul := by
  intro H G rs vs A r Q gh rep nd ga e k
  unfold opMul at e
  split at e
  · split at e
    · rename_i hb
      cases e
      obtain ⟨v, u, A1, A2, rfl, rfl, h1, h2⟩ := repL2 rep
      obtain ⟨rfl, rfl⟩ := rep_int h1
      obtain ⟨rfl, rfl⟩ := rep_int h2
      exact .inl ⟨_, _, rfl, rfl, bitOk_iff.mp hb, k _ H G [] (vpost_same gh (.int _ _))⟩
    · cases e
  · split at e
    · rename_i hb
      cases e
      obtain ⟨v, u, A1, A2, rfl, rfl, h1, h2⟩ := repL2 rep
      obtain ⟨rfl, rfl⟩ := rep_int h2
      obtain ⟨a, xs, rfl, ha, ra⟩ := rep_lst gh h1 (lookAt_same ga) fun a z => lookAt_in (List.mem_append_left _ z)
      refine .inr ⟨a, _, xs, rfl, rfl, ha, (of_ok hb).1, (of_ok hb).2.1, by rw [← ra.len]; exact (of_ok hb).2.2, fun p hp => ?_⟩
      obtain ⟨G', q⟩ := vpost_new gh ga hp (reps_rep ra _)
      exact k _ _ _ _ q
    · cases e
  · cases e

/-! ### == -/
mutual
theorem Rep.dp (gh : Same G H) : ∀ {m : Mode} {d : D} {v : V} {A : List Addr}, Rep W H G m d v A → d.plain = true → Dp W.K H v d.py
  | _, _, _, _, .non _, _ => .non
  | _, _, _, _, .bl _ b, _ => .bl b
  | _, _, _, _, .int _ i, _ => .int i
  | _, _, _, _, .str _ x, _ => .str x
  | _, _, _, _, .ty _ n, k => by rw [D.plain] at k; cases k
  | _, _, _, _, .cl _ n, k => by rw [D.plain] at k; cases k
  | _, _, _, _, .exc _ n, k => by rw [D.plain] at k; cases k
  | _, _, _, _, .tup h r, k => .tup h (Reps.dp gh r (by rw [D.plain] at k; exact k))
  | _, _, _, _, .lstF h r, k => .lst (SqL.of (gh _ _ h)) (Reps.dp gh r (by rw [D.plain] at k; exact k))
  | _, _, _, _, .lstS h r, k => .lst (SqL.of h) (Reps.dp gh r (by rw [D.plain] at k; exact k))
  | _, _, _, _, .lstO h r, k => .lst (SqL.of h) (Reps.dp gh r (by rw [D.plain] at k; exact k))
  | _, _, _, _, .scr (ns := ns) h, _ => .lst (gh.seq h) (dp_ints ns)
  | _, _, _, _, .insF _ _, k => by rw [D.plain] at k; cases k
  | _, _, _, _, .insS _ _, k => by rw [D.plain] at k; cases k
  | _, _, _, _, .insO _ _, k => by rw [D.plain] at k; cases k
theorem Reps.dp (gh : Same G H) : ∀ {m : Mode} {d : List D} {v : List V} {A : List Addr}, Reps W H G m d v A → D.plains d = true → DpAll W.K H v (D.pys d)
  | _, _, _, _, .nil _, _ => .nil
  | _, _, _, _, .cons h r, k => by
    rw [D.plains, Bool.and_eq_true] at k
    exact .cons (Rep.dp gh h k.1) (Reps.dp gh r k.2)
theorem dp_ints : ∀ ns : List Int, DpAll W.K H (ns.map V.int) (ns.map PyData.int)
  | [] => .nil
  | n :: ns => .cons (.int n) (dp_ints ns)
end
theorem vop_eq : VOp W (rr2 (rEqD W.K)) opEq := by
  intro H G rs vs A r Q gh rep nd ga e k
  unfold opEq at e
  split at e
  · split at e
    · rename_i hb
      cases e
      rw [Bool.and_eq_true] at hb
      obtain ⟨h1, h2⟩ := hb
      unfold pyOk at h1 h2
      rw [Bool.and_eq_true] at h1 h2
      obtain ⟨v, u, A1, A2, rfl, rfl, r1, r2⟩ := repL2 rep
      exact ⟨_, _, r1.dp gh h1.1, r2.dp gh h2.1, h1.2, h2.2, k _ H G [] (vpost_same gh (.bl _ _))⟩
    · cases e
  · cases e
theorem vop_ne : VOp W (rr2 (rNeD W.K)) opNe := by
  intro H G rs vs A r Q gh rep nd ga e k
  unfold opNe at e
  split at e
  · split at e
    · rename_i hb
      cases e
      rw [Bool.and_eq_true] at hb
      obtain ⟨h1, h2⟩ := hb
      unfold pyOk at h1 h2
      rw [Bool.and_eq_true] at h1 h2
      obtain ⟨v, u, A1, A2, rfl, rfl, r1, r2⟩ := repL2 rep
      exact ⟨_, _, r1.dp gh h1.1, r2.dp gh h2.1, h1.2, h2.2, k _ H G [] (vpost_same gh (.bl _ _))⟩
    · cases e
  · cases e
theorem rep_isNon {m : Mode} {d : D} (h : Rep W H G m d v A) : decide (v = .non) = d.isNon := by
  cases h <;> simp [D.isNon]
def rIsN : R2 := fun x y H Q => y = .non ∧ Q (.bl (decide (x = .non))) H
def rNotN : R2 := fun x y H Q => y = .non ∧ Q (.bl (!decide (x = .non))) H
theorem vop_isN : VOp W (rr2 rIsN) opIsN := by
  intro H G rs vs A r Q gh rep nd ga e k
  unfold opIsN at e
  split at e
  · cases e
    obtain ⟨v, u, A1, A2, rfl, rfl, r1, r2⟩ := repL2 rep
    obtain ⟨rfl, rfl⟩ := rep_non r2
    refine ⟨rfl, ?_⟩
    rw [rep_isNon r1]
    exact k _ H G [] (vpost_same gh (.bl _ _))
  · cases e
theorem vop_notN : VOp W (rr2 rNotN) opNotN := by
  intro H G rs vs A r Q gh rep nd ga e k
  unfold opNotN at e
  split at e
  · cases e
    obtain ⟨v, u, A1, A2, rfl, rfl, r1, r2⟩ := repL2 rep
    obtain ⟨rfl, rfl⟩ := rep_non r2
    refine ⟨rfl, ?_⟩
    rw [rep_isNon r1]
    exact k _ H G [] (vpost_same gh (.bl _ _))
  · cases e
theorem vop_isB : VOp W (rr2 rIsB) opIsB := by
  intro H G rs vs A r Q gh rep nd ga e k
  unfold opIsB at e
  split at e
  · cases e
    obtain ⟨v, u, A1, A2, rfl, rfl, r1, r2⟩ := repL2 rep
    obtain ⟨rfl, rfl⟩ := rep_bl r1
    obtain ⟨rfl, rfl⟩ := rep_bl r2
    exact ⟨_, _, rfl, rfl, k _ H G [] (vpost_same gh (.bl _ _))⟩
  · cases e
theorem vop_notB : VOp W (rr2 rNotB) opNotB := by
  intro H G rs vs A r Q gh rep nd ga e k
  unfold opNotB at e
  split at e
  · cases e
    obtain ⟨v, u, A1, A2, rfl, rfl, r1, r2⟩ := repL2 rep
    obtain ⟨rfl, rfl⟩ := rep_bl r1
    obtain ⟨rfl, rfl⟩ := rep_bl r2
    exact ⟨_, _, rfl, rfl, k _ H G [] (vpost_same gh (.bl _ _))⟩
  · cases e

/-! ### displays -/
theorem repL_O : ∀ {rs : List Val} {vs : List V} {A : List Addr}, RepL W H G rs vs A → allO rs = true → Reps W H G .O (ds rs) vs A
  | _, _, _, .nil, _ => .nil _
  | _, _, _, .cons h r, k => by
    rw [allO, Bool.and_eq_true] at k
    have e := of_decide_eq_true k.1
    rw [e] at h
    exact .cons h (repL_O r k.2)
theorem repL_S : ∀ {rs : List Val} {vs : List V} {A : List Addr}, RepL W H G rs vs A → allS rs = true → Reps W H G .S (ds rs) vs A
  | _, _, _, .nil, _ => .nil _
  | _, _, _, .cons h r, k => by
    rw [allS, Bool.and_eq_true, Bool.or_eq_true] at k
    rcases k.1 with e | e
    · have e := of_decide_eq_true e
      rw [e] at h
      exact .cons h (repL_S r k.2)
    · obtain ⟨z, q⟩ := h.flat e
      subst z
      exact .cons (q _ _) (repL_S r k.2)
theorem repL_len : ∀ {rs : List Val} {vs : List V} {A : List Addr}, RepL W H G rs vs A → rs.length = vs.length
  | _, _, _, .nil => rfl
  | _, _, _, .cons _ r => by rw [List.length_cons, List.length_cons, repL_len r]
def rTup : RV := fun xs H Q => xs.length ≤ sizeLine ∧ ∀ p, H p = none → Q (.ref p) (upd H p (.tup xs))
def rLst : RV := fun xs H Q => xs.length ≤ sizeLine ∧ ∀ p, H p = none → Q (.ref p) (upd H p (.lst xs))
theorem vop_tup : VOp W rTup opTup := by
  intro H G rs vs A r Q gh rep nd ga e k
  unfold opTup at e
  split at e
  case isFalse => cases e
  rename_i hl
  refine ⟨by rw [← repL_len rep]; exact of_ok hl, fun p hp => ?_⟩
  have kp := upd_keep (u := .tup vs) hp
  have T : SqT W.K (upd H p (.tup vs)) p vs := SqT.of upd_same
  have gu : Same G (upd H p (.tup vs)) := fun a o e => kp a o (gh a o e)
  split at e
  · rename_i hO
    cases e
    exact k _ _ G A ⟨kp, Same.refl _, gu, fun _ e n => absurd e n, .tup T ((repL_O rep hO).mono (seqT_keep kp) (Same.refl _) fun a _ o e => kp a o e), nd, ga, fun c hc => .inr hc⟩
  split at e
  · rename_i hS
    cases e
    exact k _ _ G A ⟨kp, Same.refl _, gu, fun _ e n => absurd e n, .tup T ((repL_S rep hS).mono (seqT_keep kp) (Same.refl _) fun a _ o e => kp a o e), nd, ga, fun c hc => .inr hc⟩
  · cases e
    have rf := rep.froze (G' := lookAt G H A) (lookAt_same ga) fun a ha => lookAt_in ha
    refine k _ _ (lookAt G H A) [] ⟨kp, lookAt_same ga, fun a o e => kp a o (lookAt_sub gh a o e), fun a e n => ?_, .tup T (rf.mono (seqT_keep kp) (Same.refl _) fun _ z => nomatch z), List.nodup_nil, fun _ z => (nomatch z), fun _ z => (nomatch z)⟩
    by_cases z : a ∈ A
    · exact .inr z
    · rw [lookAt_out z] at n
      exact absurd e n
theorem vop_lst : VOp W rLst opLst := by
  intro H G rs vs A r Q gh rep nd ga e k
  unfold opLst at e
  split at e
  case isFalse => cases e
  rename_i hl
  refine ⟨by rw [← repL_len rep]; exact of_ok hl, fun p hp => ?_⟩
  have kp := upd_keep (u := .lst vs) hp
  have gu : Same G (upd H p (.lst vs)) := fun a o e => kp a o (gh a o e)
  have np : ∀ a ∈ A, p ≠ a := fun a ha z => by
    obtain ⟨o, eo, _⟩ := rep.own a ha
    rw [← z, hp] at eo
    cases eo
  split at e
  · rename_i hO
    cases e
    refine k _ _ G (p :: A) ⟨kp, Same.refl _, gu, fun _ e n => absurd e n, .lstO upd_same ((repL_O rep hO).mono (seqT_keep kp) (Same.refl _) fun a _ o e => kp a o e), List.nodup_cons.mpr ⟨fun z => np p z rfl, nd⟩, fun c hc => ?_, fun c hc => ?_⟩
    · rcases List.mem_cons.mp hc with z | z
      · subst z
        cases z : G c with
        | none => rfl
        | some o => rw [gh c o z] at hp; cases hp
      · exact ga c z
    · rcases List.mem_cons.mp hc with z | z
      · subst z
        exact .inl hp
      · exact .inr z
  · cases e
    have rf := rep.froze (G' := lookAt G H A) (lookAt_same ga) fun a ha => lookAt_in ha
    refine k _ _ (lookAt G H A) [p] ⟨kp, lookAt_same ga, fun a o e => kp a o (lookAt_sub gh a o e), fun a e n => ?_, .lstS upd_same (rf.mono (seqT_keep kp) (Same.refl _) fun _ z => nomatch z), by simp, fun c hc => ?_, fun c hc => ?_⟩
    · by_cases z : a ∈ A
      · exact .inr z
      · rw [lookAt_out z] at n
        exact absurd e n
    · rw [List.mem_singleton] at hc
      subst hc
      cases z : lookAt G H A c with
      | none => rfl
      | some o => rw [lookAt_sub gh c o z] at hp; cases hp
    · rw [List.mem_singleton] at hc
      subst hc
      exact .inl hp
end
end Tr

/-! TrVal2: subscripts, slices, built-in functions. -/
namespace Tr
open PySem L2
section
variable {W : Wd} {H G H' G' : Hp} {A B C : List Addr} {r : Val} {v : V}

theorem atI_ix {α : Type} {xs : List α} {i : Int} {d : α} (h : atI xs i = some d) : ∃ j, ixN xs.length i = some j ∧ xs[j]? = some d := by
  unfold atI at h
  cases e : ixN xs.length i with
  | none => rw [e] at h; cases h
  | some j => rw [e] at h; exact ⟨j, rfl, h⟩
theorem atI_of {α : Type} {xs : List α} {i : Int} {j : Nat} {d : α} (h : ixN xs.length i = some j) (h2 : xs[j]? = some d) : atI xs i = some d := by
  unfold atI
  rw [h]
  exact h2
theorem reps_kid {m : Mode} : ∀ {ds : List D} {vs : List V} {A : List Addr} {j : Nat} {d : D}, Reps W H G m ds vs A → ds[j]? = some d → ∃ v C, vs[j]? = some v ∧ Rep W H G m d v C ∧ (∀ c ∈ C, c ∈ A) ∧ (A.Nodup → C.Nodup)
  | _, _, _, _, _, .nil _, e => by cases e
  | _, _, _, 0, _, .cons h r, e => by
    cases e
    exact ⟨_, _, rfl, h, fun c hc => List.mem_append_left _ hc, fun n => (List.nodup_append.mp n).1⟩
  | _, _, _, j + 1, _, .cons h r, e => by
    obtain ⟨v, C, h1, h2, h3, h4⟩ := reps_kid (j := j) r e
    exact ⟨v, C, h1, h2, fun c hc => List.mem_append_right _ (h3 c hc), fun n => h4 (List.nodup_append.mp n).2.1⟩
theorem vpost_kid {m : Mode} {d : D} (gh : Same G H) (ga : ∀ a ∈ A, G a = none) (nd : A.Nodup) (rep : Rep W H G m d v C) (hc : ∀ c ∈ C, c ∈ A) (cn : A.Nodup → C.Nodup) : VPost W H G A (nrm m d) v H G C :=
  ⟨fun _ _ e => e, Same.refl _, gh, fun _ e n => absurd e n, rep.nrm, cn nd, fun c z => ga c (hc c z), fun c z => .inr (hc c z)⟩
theorem ints_at : ∀ {ns : List Int} {j : Nat} {i : Int}, ns[j]? = some i → (ns.map V.int)[j]? = some (V.int i) := fun {ns j i} h => by
  rw [List.getElem?_map, h]
  rfl
theorem vop_idx : VOp W (rr2 (rIx W.K)) opIdx := by
  intro H G rs vs A r Q gh rep nd ga e k
  unfold opIdx at e
  split at e
  · cases e1 : atI _ _ with
    | none => rw [e1] at e; cases e
    | some d =>
      rw [e1] at e
      cases e
      obtain ⟨v, u, A1, A2, rfl, rfl, r1, r2⟩ := repL2 rep
      obtain ⟨rfl, rfl⟩ := rep_int r2
      rw [List.append_nil] at ga nd
      obtain ⟨j, h1, h2⟩ := atI_ix e1
      have fin : ∀ {a : Addr} {us : List V} {C : List Addr} {x : V} {m : Mode}, SqL W.K H a us → us.length = _ → us[j]? = some x → Rep W H G m d x C → (∀ c ∈ C, c ∈ A1) → (A1.Nodup → C.Nodup) → (∀ G' C, VPost W H G (A1 ++ []) (nrm m d) x H G' C → Q x H) → rIx W.K (.ref a) (.int _) H Q :=
        fun {a us C x m} hs hl hx rx hc hn kk => .inl ⟨a, us, _, x, rfl, rfl, hs, atI_of (by rw [hl]; exact h1) hx, kk G C (by rw [List.append_nil]; exact vpost_kid gh ga nd rx hc hn)⟩
      cases r1 with
      | lstF hl r =>
        obtain ⟨x, C, q1, q2, q3, q4⟩ := reps_kid r h2
        exact fin (SqL.of (gh _ _ hl)) r.len.symm q1 q2 q3 (fun n => q4 n) fun G' C p => k _ _ _ _ p
      | lstS hl r =>
        obtain ⟨x, C, q1, q2, q3, q4⟩ := reps_kid r h2
        exact fin (SqL.of hl) r.len.symm q1 q2 (fun c z => nomatch q3 c z) (fun n => q4 List.nodup_nil) fun G' C p => k _ _ _ _ p
      | lstO hl r =>
        obtain ⟨x, C, q1, q2, q3, q4⟩ := reps_kid r h2
        exact fin (SqL.of hl) r.len.symm q1 q2 (fun c z => List.mem_cons_of_mem _ (q3 c z)) (fun n => q4 (List.nodup_cons.mp n).2) fun G' C p => k _ _ _ _ p
  · cases e1 : atI _ _ with
    | none => rw [e1] at e; cases e
    | some d =>
      rw [e1] at e
      cases e
      obtain ⟨v, u, A1, A2, rfl, rfl, r1, r2⟩ := repL2 rep
      obtain ⟨rfl, rfl⟩ := rep_int r2
      rw [List.append_nil] at ga nd
      obtain ⟨j, h1, h2⟩ := atI_ix e1
      obtain ⟨a, us, rfl, hs, rs⟩ := rep_tup r1
      obtain ⟨x, C, q1, q2, q3, q4⟩ := reps_kid rs h2
      exact .inr (.inl ⟨a, us, _, x, rfl, rfl, hs, atI_of (by rw [← rs.len]; exact h1) q1, k _ _ G C (by rw [List.append_nil]; exact vpost_kid gh ga nd q2 q3 q4)⟩)
  · cases e1 : atI _ _ with
    | none => rw [e1] at e; cases e
    | some d =>
      rw [e1] at e
      cases e
      obtain ⟨v, u, A1, A2, rfl, rfl, r1, r2⟩ := repL2 rep
      obtain ⟨rfl, rfl⟩ := rep_int r2
      obtain ⟨j, h1, h2⟩ := atI_ix e1
      cases r1 with
      | scr hs => exact .inl ⟨_, _, _, _, rfl, rfl, gh.seq hs, atI_of (by rw [List.length_map]; exact h1) (ints_at h2), k _ _ G [] (vpost_same gh (.int _ _))⟩
  · split at e
    case isFalse => cases e
    rename_i hl
    cases e1 : atI _ _ with
    | none => rw [e1] at e; cases e
    | some d =>
      rw [e1] at e
      cases e
      obtain ⟨v, u, A1, A2, rfl, rfl, r1, r2⟩ := repL2 rep
      obtain ⟨rfl, rfl⟩ := rep_int r2
      obtain ⟨rfl, rfl⟩ := rep_str r1
      exact .inr (.inr ⟨_, _, _, rfl, rfl, of_ok hl, e1, k _ _ G [] (vpost_same gh (.str _ _))⟩)
  · cases e

/-! ### slices -/
def SimO (W : Wd) (t : TO) (f : Env → Option (Option Int × Env)) : Prop :=
  ∀ (ρ : Env) (σ : L2.St) (H F G : Hp) (As : Nat → List Addr) (o : Option Int) (ρ' : Env) (Q : Option Int → Hp → Prop), Sta W ρ σ H F G As → f ρ = some (o, ρ') →
    (∀ H' As', Post W ρ σ H F G As ρ' H' G As' → Q o H') → t σ H Q
theorem sim_onone : SimO W tNoPart sONone := by
  intro ρ σ H F G As o ρ' Q S e k
  cases e
  exact k H As (Post.refl S)
theorem sim_osome {t : TE} {f : SE} (h : SimE W t f) : SimO W (tPart t) (sOSome f) := by
  intro ρ σ H F G As o ρ' Q S e k
  unfold sOSome at e
  split at e
  case h_2 => cases e
  cases e
  refine h ρ σ H F G As _ _ _ S ‹_› fun v H' G' As' B p rep t o => ?_
  cases rep
  exact ⟨_, rfl, k H' As' (p.restore S)⟩
theorem cutV_cut (vs : List V) (lo hi : Option Int) : cutV vs lo hi = cut vs lo hi := rfl
theorem sim_cut {te : TE} {tl th : TO} {f : SE} {l u : Env → Option (Option Int × Env)} (hf : SimE W te f) (hl : SimO W tl l) (hu : SimO W th u) : SimE W (tSl (rSlL W.K) te tl th) (sCut f l u) := by
  refine sim_seal ?_
  intro ρ σ H F G As r ρ' Q S e k
  simp only at e
  split at e
  case h_2 => cases e
  rename_i r1 ρ1 e1
  split at e
  case h_2 => cases e
  rename_i lo ρ2 e2
  split at e
  case h_2 => cases e
  rename_i hi ρ3 e3
  split at e
  case h_2 => cases e
  rename_i xs e4
  cases e
  obtain ⟨m, d⟩ := r1
  subst e4
  refine hf ρ σ H F G As _ _ _ S e1 fun v H1 G1 As1 B p rep t org => ?_
  refine hl _ σ H1 F G1 As1 _ _ _ p.st e2 fun H2 As2 p2 => ?_
  obtain ⟨t2, k2⟩ := p2.tmp p.st t
  refine hu _ σ H2 F G1 As2 _ _ _ p2.st e3 fun H3 As3 p3 => ?_
  obtain ⟨t3, k3⟩ := p3.tmp p2.st t2
  have P := (p.trans S p2).trans S p3
  have rep3 := (rep.mono (p2.tups p.st) p2.gg k2).mono (p3.tups p2.st) p3.gg k3
  obtain ⟨a, vs, rfl, ha, ra⟩ := rep_lst P.st.gh rep3 (lookAt_same t3.g) fun a z => lookAt_in z
  refine ⟨a, vs, rfl, SqL.of ha, fun q hq => ?_⟩
  have rc : Reps W H3 (lookAt G1 H3 B) .F (cut xs lo hi) (cut vs lo hi) [] := by
    unfold cut
    rw [ra.len]
    exact reps_take _ (reps_drop _ ra)
  obtain ⟨G', vp⟩ := vpost_new P.st.gh t3.g hq rc
  obtain ⟨p4, t4, o4⟩ := vp.post P S t3 org
  exact k _ _ G' As3 [q] p4 vp.rep t4 o4

/-! ### built-in functions -/
def rrc (r : List V → Hp → VK → Prop) : RV := r
theorem lenV_len {xs : List V} {a : Addr} (h : SqL W.K H a xs) : LenV W.K (.ref a) H xs.length := .inl ⟨xs, h, rfl⟩
def rLen (K : PySem.W.Frag) : RV := fun xs H Q => ∃ x n, xs = [x] ∧ LenV K x H n ∧ Q (.int n) H
theorem vop_len : VOp W (rLen W.K) opLen := by
  intro H G rs vs A r Q gh rep nd ga e k
  unfold opLen at e
  split at e
  · cases e
    obtain ⟨v, rfl, h1⟩ := repL1 rep
    obtain ⟨a, us, rfl, ha, ra⟩ := rep_lst gh h1 (lookAt_same ga) fun a z => lookAt_in z
    exact ⟨_, us.length, rfl, .inl ⟨us, SqL.of ha, rfl⟩, by rw [← ra.len]; exact k _ H G [] (vpost_same gh (.int _ _))⟩
  · cases e
    obtain ⟨v, rfl, h1⟩ := repL1 rep
    obtain ⟨a, us, rfl, ha, ra⟩ := rep_tup h1
    exact ⟨_, us.length, rfl, .inr ⟨us, ha, rfl⟩, by rw [← ra.len]; exact k _ H G [] (vpost_same gh (.int _ _))⟩
  · cases e
    obtain ⟨v, rfl, h1⟩ := repL1 rep
    cases h1 with
    | scr hs => exact ⟨_, _, rfl, .inl ⟨_, gh.seq hs, rfl⟩, by rw [List.length_map]; exact k _ H G [] (vpost_same gh (.int _ _))⟩
  · split at e
    case isFalse => cases e
    rename_i hl
    cases e
    obtain ⟨v, rfl, h1⟩ := repL1 rep
    obtain ⟨rfl, rfl⟩ := rep_str h1
    exact ⟨_, _, rfl, ⟨of_ok hl, rfl⟩, k _ H G [] (vpost_same gh (.int _ _))⟩
  · cases e
def rAbs : RV := fun xs H Q => ∃ i, xs = [.int i] ∧ Q (.int (if i < 0 then -i else i)) H
theorem vop_abs : VOp W rAbs opAbs := by
  intro H G rs vs A r Q gh rep nd ga e k
  unfold opAbs at e
  split at e
  · cases e
    obtain ⟨v, rfl, h1⟩ := repL1 rep
    obtain ⟨rfl, rfl⟩ := rep_int h1
    exact ⟨_, rfl, k _ H G [] (vpost_same gh (.int _ _))⟩
  · cases e
def rMax2 : RV := fun xs H Q => ∃ i j, xs = [.int i, .int j] ∧ Q (.int (if j > i then j else i)) H
def rMin2 : RV := fun xs H Q => ∃ i j, xs = [.int i, .int j] ∧ Q (.int (if j < i then j else i)) H
theorem vop_max2 : VOp W rMax2 opMax2 := by
  intro H G rs vs A r Q gh rep nd ga e k
  unfold opMax2 at e
  split at e
  · cases e
    obtain ⟨v, u, A1, A2, rfl, rfl, r1, r2⟩ := repL2 rep
    obtain ⟨rfl, rfl⟩ := rep_int r1
    obtain ⟨rfl, rfl⟩ := rep_int r2
    exact ⟨_, _, rfl, k _ H G [] (vpost_same gh (.int _ _))⟩
  · cases e
theorem vop_min2 : VOp W rMin2 opMin2 := by
  intro H G rs vs A r Q gh rep nd ga e k
  unfold opMin2 at e
  split at e
  · cases e
    obtain ⟨v, u, A1, A2, rfl, rfl, r1, r2⟩ := repL2 rep
    obtain ⟨rfl, rfl⟩ := rep_int r1
    obtain ⟨rfl, rfl⟩ := rep_int r2
    exact ⟨_, _, rfl, k _ H G [] (vpost_same gh (.int _ _))⟩
  · cases e
def rInt1 : RV := fun xs H Q => (∃ i, xs = [.int i] ∧ Q (.int i) H) ∨ ∃ k, xs = [.bl k] ∧ Q (.int (if k then 1 else 0)) H
theorem vop_int : VOp W rInt1 opInt := by
  intro H G rs vs A r Q gh rep nd ga e k
  unfold opInt at e
  split at e
  · cases e
    obtain ⟨v, rfl, h1⟩ := repL1 rep
    obtain ⟨rfl, rfl⟩ := rep_int h1
    exact .inl ⟨_, rfl, k _ H G [] (vpost_same gh (.int _ _))⟩
  · cases e
    obtain ⟨v, rfl, h1⟩ := repL1 rep
    obtain ⟨rfl, rfl⟩ := rep_bl h1
    exact .inr ⟨_, rfl, k _ H G [] (vpost_same gh (.int _ _))⟩
  · cases e
def rListOf (K : PySem.W.Frag) : RV := fun xs H Q => ∃ p ys, xs = [.ref p] ∧ (SqL K H p ys ∨ SqT K H p ys) ∧ ∀ l, H l = none → Q (.ref l) (upd H l (.lst ys))
theorem vop_list : VOp W (rListOf W.K) opList := by
  intro H G rs vs A r Q gh rep nd ga e k
  unfold opList at e
  split at e
  · cases e
    obtain ⟨v, rfl, h1⟩ := repL1 rep
    obtain ⟨a, us, rfl, ha, ra⟩ := rep_lst gh h1 (lookAt_same ga) fun a z => lookAt_in z
    refine ⟨a, us, rfl, .inl (SqL.of ha), fun p hp => ?_⟩
    obtain ⟨G', q⟩ := vpost_new gh ga hp ra
    exact k _ _ _ _ q
  · cases e
    obtain ⟨v, rfl, h1⟩ := repL1 rep
    obtain ⟨a, us, rfl, ha, ra⟩ := rep_tup h1
    refine ⟨a, us, rfl, .inr ha, fun p hp => ?_⟩
    obtain ⟨G', q⟩ := vpost_new gh ga hp (ra.froze (lookAt_same ga) fun a z => lookAt_in z)
    exact k _ _ _ _ q
  · cases e
theorem rep_tyX {m : Mode} {d : D} {t : String} (gh : Same G H) (h : Rep W H G m d v A) (e : d.tyName = some t) : TyX W.K H v (.type t) := by
  cases h with
  | non => cases e; exact .base .non
  | bl => cases e; exact .base (.bl _)
  | int => cases e; exact .base (.int _)
  | str => cases e; exact .base (.str _)
  | ty => cases e
  | cl => cases e
  | exc => cases e
  | tup h r =>
    cases e
    rcases h with (h | ⟨o, h⟩) | ⟨o, its, n, hk, hc, _⟩
    · exact .base (.tup h)
    · exact .fTuple h
    · exact .kTuple hk hc
  | lstF h r => cases e; exact .base (.lst (gh _ _ h))
  | lstS h r => cases e; exact .base (.lst h)
  | lstO h r => cases e; exact .base (.lst h)
  | scr h =>
    cases e
    rcases gh.seq h with (h | ⟨o, h⟩) | ⟨o, its, n, hk, hc, _⟩
    · exact .base (.lst h)
    · exact .base (.frz h)
    · exact .kList hk hc
  | insF => cases e
  | insS => cases e
  | insO => cases e
theorem vop_isi : VOp W (rIsi W.K) opIsi := by
  intro H G rs vs A r Q gh rep nd ga e k
  unfold opIsi at e
  split at e
  case h_2 => cases e
  rename_i a m n
  cases e1 : a.d.tyName with
  | none => rw [e1] at e; cases e
  | some t =>
    rw [e1] at e
    cases e2 : kitB t n with
    | none => simp [e2] at e
    | some b =>
      simp [e2] at e
      subst e
      obtain ⟨v, u, A1, A2, rfl, rfl, r1, r2⟩ := repL2 rep
      cases r2
      exact ⟨_, _, _, _, b, rfl, .ty n, rep_tyX gh r1 e1, kit_ty e2, k _ H G [] (vpost_same gh (.bl _ _))⟩
theorem reps_bls {m : Mode} : ∀ {xs : List D} {vs : List V} {A : List Addr} {bs : List Bool}, Reps W H G m xs vs A → bls? xs = some bs → vs = bs.map V.bl
  | _, _, _, _, .nil _, e => by cases e; rfl
  | _, _, _, _, .cons (d := d) h r, e => by
    cases d with
    | bl b =>
      rw [bls?] at e
      cases e1 : bls? _ with
      | none => rw [e1] at e; cases e
      | some bs =>
        rw [e1] at e
        cases e
        obtain ⟨rfl, _⟩ := rep_bl h
        rw [reps_bls r e1]
        rfl
    | _ => rw [bls?] at e <;> first | cases e | (intro _ z; cases z)
theorem reps_ints {m : Mode} : ∀ {xs : List D} {vs : List V} {A : List Addr} {bs : List Int}, Reps W H G m xs vs A → ints? xs = some bs → vs = bs.map V.int
  | _, _, _, _, .nil _, e => by cases e; rfl
  | _, _, _, _, .cons (d := d) h r, e => by
    cases d with
    | int b =>
      rw [ints?] at e
      cases e1 : ints? _ with
      | none => rw [e1] at e; cases e
      | some bs =>
        rw [e1] at e
        cases e
        obtain ⟨rfl, _⟩ := rep_int h
        rw [reps_ints r e1]
        rfl
    | _ => rw [ints?] at e <;> first | cases e | (intro _ z; cases z)
theorem vop_all : VOp W (rAll W.K) opAll := by
  intro H G rs vs A r Q gh rep nd ga e k
  unfold opAll at e
  split at e
  case h_2 => cases e
  rename_i m xs
  cases e1 : bls? xs with
  | none => rw [e1] at e; cases e
  | some bs =>
    rw [e1] at e
    cases e
    obtain ⟨v, rfl, h1⟩ := repL1 rep
    obtain ⟨a, us, rfl, ha, ra⟩ := rep_lst gh h1 (lookAt_same ga) fun a z => lookAt_in z
    rw [reps_bls ra e1] at ha
    exact ⟨a, bs, rfl, SqL.of ha, k _ H G [] (vpost_same gh (.bl _ _))⟩
theorem vop_any : VOp W (rAny W.K) opAny := by
  intro H G rs vs A r Q gh rep nd ga e k
  unfold opAny at e
  split at e
  case h_2 => cases e
  rename_i m xs
  cases e1 : bls? xs with
  | none => rw [e1] at e; cases e
  | some bs =>
    rw [e1] at e
    cases e
    obtain ⟨v, rfl, h1⟩ := repL1 rep
    obtain ⟨a, us, rfl, ha, ra⟩ := rep_lst gh h1 (lookAt_same ga) fun a z => lookAt_in z
    rw [reps_bls ra e1] at ha
    exact ⟨a, bs, rfl, SqL.of ha, k _ H G [] (vpost_same gh (.bl _ _))⟩
theorem vop_sum : VOp W (rSum W.K) opSum := by
  intro H G rs vs A r Q gh rep nd ga e k
  unfold opSum at e
  split at e
  case h_2 => cases e
  rename_i m xs
  cases e1 : ints? xs with
  | none => rw [e1] at e; cases e
  | some bs =>
    rw [e1] at e
    cases e
    obtain ⟨v, rfl, h1⟩ := repL1 rep
    obtain ⟨a, us, rfl, ha, ra⟩ := rep_lst gh h1 (lookAt_same ga) fun a z => lookAt_in z
    rw [reps_ints ra e1] at ha
    exact ⟨a, bs, rfl, SqL.of ha, k _ H G [] (vpost_same gh (.int _ _))⟩
theorem leastI_ok : ∀ {bs : List Int}, bs ≠ [] → leastI bs ∈ bs ∧ ∀ y ∈ bs, leastI bs ≤ y
  | [], h => absurd rfl h
  | [x], _ => by simp [leastI]
  | x :: y :: r, _ => by
    obtain ⟨h1, h2⟩ := leastI_ok (bs := y :: r) (by simp)
    have e : leastI (x :: y :: r) = min x (leastI (y :: r)) := rfl
    rw [e]
    constructor
    · by_cases q : x ≤ leastI (y :: r)
      · rw [Int.min_eq_left q]; simp
      · rw [Int.min_eq_right (by omega)]; exact List.mem_cons_of_mem _ h1
    · intro z hz
      rcases List.mem_cons.mp hz with rfl | hz
      · omega
      · have := h2 z hz
        omega
theorem mostI_ok : ∀ {bs : List Int}, bs ≠ [] → mostI bs ∈ bs ∧ ∀ y ∈ bs, y ≤ mostI bs
  | [], h => absurd rfl h
  | [x], _ => by simp [mostI]
  | x :: y :: r, _ => by
    obtain ⟨h1, h2⟩ := mostI_ok (bs := y :: r) (by simp)
    have e : mostI (x :: y :: r) = max x (mostI (y :: r)) := rfl
    rw [e]
    constructor
    · by_cases q : mostI (y :: r) ≤ x
      · rw [Int.max_eq_left q]; simp
      · rw [Int.max_eq_right (by omega)]; exact List.mem_cons_of_mem _ h1
    · intro z hz
      rcases List.mem_cons.mp hz with rfl | hz
      · omega
      · have := h2 z hz
        omega
theorem vop_minL : VOp W (rMin W.K) opMinL := by
  intro H G rs vs A r Q gh rep nd ga e k
  unfold opMinL at e
  split at e
  case h_2 => cases e
  rename_i m xs
  cases e1 : ints? xs with
  | none => rw [e1] at e; cases e
  | some bs =>
    rw [e1] at e
    simp only [Option.bind_some] at e
    split at e
    · cases e
    · rename_i hne
      cases e
      have hne : bs ≠ [] := fun z => hne (by rw [z]; rfl)
      obtain ⟨v, rfl, h1⟩ := repL1 rep
      obtain ⟨a, us, rfl, ha, ra⟩ := rep_lst gh h1 (lookAt_same ga) fun a z => lookAt_in z
      rw [reps_ints ra e1] at ha
      refine ⟨a, bs, rfl, SqL.of ha, List.length_pos_iff.mpr hne, fun m hm hle => ?_⟩
      obtain ⟨q1, q2⟩ := leastI_ok hne
      have : m = leastI bs := by
        have := hle _ q1
        have := q2 _ hm
        omega
      rw [this]
      exact k _ H G [] (vpost_same gh (.int _ _))
theorem vop_maxL : VOp W (rMax W.K) opMaxL := by
  intro H G rs vs A r Q gh rep nd ga e k
  unfold opMaxL at e
  split at e
  case h_2 => cases e
  rename_i m xs
  cases e1 : ints? xs with
  | none => rw [e1] at e; cases e
  | some bs =>
    rw [e1] at e
    simp only [Option.bind_some] at e
    split at e
    · cases e
    · rename_i hne
      cases e
      have hne : bs ≠ [] := fun z => hne (by rw [z]; rfl)
      obtain ⟨v, rfl, h1⟩ := repL1 rep
      obtain ⟨a, us, rfl, ha, ra⟩ := rep_lst gh h1 (lookAt_same ga) fun a z => lookAt_in z
      rw [reps_ints ra e1] at ha
      refine ⟨a, bs, rfl, SqL.of ha, List.length_pos_iff.mpr hne, fun m hm hle => ?_⟩
      obtain ⟨q1, q2⟩ := mostI_ok hne
      have : m = mostI bs := by
        have := hle _ q1
        have := q2 _ hm
        omega
      rw [this]
      exact k _ H G [] (vpost_same gh (.int _ _))
theorem rep_atom {m : Mode} {d : D} (h : Rep W H G m d v A) (e : d.atom = true) : flatV v = true ∧ ∀ {m' : Mode} {d' : D} {v' : V} {A' : List Addr}, Rep W H G m' d' v' A' → d'.atom = true → eqV v' v = PyData.eqv d'.py d.py := by
  cases h <;> first | (cases e; done) | skip
  all_goals
    refine ⟨rfl, fun h' e' => ?_⟩
    cases h' <;> first | (cases e'; done) | rfl
theorem reps_atoms {m : Mode} {m' : Mode} {d' : D} {v' : V} {A' : List Addr} (h' : Rep W H G m' d' v' A') (e' : d'.atom = true) : ∀ {xs : List D} {vs : List V} {A : List Addr}, Reps W H G m xs vs A → xs.all D.atom = true → vs.all flatV = true ∧ inV v' vs = xs.any fun y => PyData.eqv y.py d'.py
  | _, _, _, .nil _, _ => ⟨rfl, rfl⟩
  | _, _, _, .cons h r, k => by
    rw [List.all_cons, Bool.and_eq_true] at k
    obtain ⟨q1, q2⟩ := reps_atoms h' e' r k.2
    refine ⟨?_, ?_⟩
    · rw [List.all_cons, (rep_atom h k.1).1, q1]
      rfl
    · unfold inV at q2 ⊢
      rw [List.any_cons, List.any_cons, q2, (rep_atom h' e').2 h k.1]
theorem vop_in (neg : Bool) : VOp W (rr2 (rIn W.K neg)) (opIn neg) := by
  intro H G rs vs A r Q gh rep nd ga e k
  unfold opIn at e
  have fin : ∀ b : Bool, (if neg then !b else b) = xor neg b := fun b => by cases neg <;> cases b <;> rfl
  split at e
  · split at e
    case isFalse => cases e
    rename_i hb
    cases e
    rw [Bool.and_eq_true] at hb
    obtain ⟨v, u, A1, A2, rfl, rfl, r1, r2⟩ := repL2 rep
    obtain ⟨a, us, rfl, ha, ra⟩ := rep_lst gh r2 (lookAt_same ga) fun a z => lookAt_in (List.mem_append_right _ z)
    have r1' := r1.froze (G' := lookAt G H (A1 ++ A2)) (lookAt_same ga) fun a z => lookAt_in (List.mem_append_left _ z)
    obtain ⟨q1, q2⟩ := reps_atoms r1' hb.1 ra hb.2
    refine ⟨a, us, rfl, .inl (SqL.of ha), (rep_atom r1 hb.1).1, q1, ?_⟩
    rw [q2, fin]
    exact k _ H G [] (vpost_same gh (.bl _ _))
  · split at e
    case isFalse => cases e
    rename_i hb
    cases e
    rw [Bool.and_eq_true] at hb
    obtain ⟨v, u, A1, A2, rfl, rfl, r1, r2⟩ := repL2 rep
    obtain ⟨a, us, rfl, ha, ra⟩ := rep_tup r2
    obtain ⟨q1, q2⟩ := reps_atoms r1 hb.1 ra hb.2
    refine ⟨a, us, rfl, .inr ha, (rep_atom r1 hb.1).1, q1, ?_⟩
    rw [q2, fin]
    exact k _ H G [] (vpost_same gh (.bl _ _))
  · cases e
end
end Tr

/-! TrIter: what is walked. -/
namespace Tr
open PySem L2 RZ
section
variable {W : Wd} {ρ ρ' ρ1 ρ2 : Env} {σ σ' : L2.St} {H F G H' F' G' : Hp} {As As' As1 : Nat → List Addr} {B : List Addr}
/-- behind its expression everything at hand is looked at -/
theorem Post.look (p : Post W ρ σ H F G As ρ1 H' G' As1) (S : Sta W ρ σ H F G As) (t : Tmp W σ H' G' As1 B) (org : ∀ b ∈ B, H b = none ∨ ∃ i, b ∈ As i) : Post W ρ σ H F G As ρ1 H' (lookAt G' H' B) As1 := by
  have gs := lookAt_same (H := H') t.g
  refine ⟨⟨p.st.len, p.st.slot, fun i s e l a ha => ?_, fun i s e l a ha => ?_, p.st.none, p.st.nd, p.st.dj, p.st.fo, fun a o e => gs a o (p.st.fg a o e), lookAt_sub p.st.gh⟩, p.keep, p.dom, p.gg.trans gs, fun a e n => ?_, p.an, p.ul, p.lk, p.nw⟩
  · rw [lookAt_out fun z => t.a a z i ha]
    exact p.st.lock i s e l a ha
  · rw [lookAt_out fun z => t.a a z i ha]
    exact p.st.free i s e l a ha
  · by_cases z : a ∈ B
    · exact org a z
    · rw [lookAt_out z] at n
      exact p.gn a e n
theorem reps_at {ds : List D} {vs : List V} (r : Reps W H G .F ds vs []) {i : Nat} {d : D} (h : ds[i]? = some d) : ∃ v, vs[i]? = some v ∧ Rep W H G .F d v [] := reps_get r rfl h
theorem lst_iter {a : Addr} {vs : List V} {ds : List D} (h : G a = some (.lst vs)) (r : Reps W H G .F ds vs []) : IterOk W (Itl W.K a) G H ds := by
  have el := r.len
  refine ⟨fun H1 i L hi => ?_, fun H1 L => ⟨vs, SqL.of (L.g _ _ h), by omega⟩, fun H1 i x H2 d L hd y => ?_⟩
  · obtain ⟨v, hv, _⟩ := reps_at r (d := ds[i]) (List.getElem?_eq_getElem hi)
    exact ⟨vs, v, SqL.of (L.g _ _ h), hv⟩
  · obtain ⟨v, hv, rv⟩ := reps_at r hd
    obtain ⟨rfl, y⟩ := y
    have e := y vs (SqL.of (L.g _ _ h))
    rw [hv] at e
    cases e
    exact ⟨fun _ _ e => e, rv.mono L.t (Same.refl _) fun _ z => nomatch z⟩
theorem tup_iter {a : Addr} {vs : List V} {ds : List D} (h : SqT W.K H a vs) (r : Reps W H G .F ds vs []) : IterOk W (Itt W.K a) G H ds := by
  have el := r.len
  refine ⟨fun H1 i L hi => ?_, fun H1 L => ⟨vs, L.t _ _ h, by omega⟩, fun H1 i x H2 d L hd y => ?_⟩
  · obtain ⟨v, hv, _⟩ := reps_at r (d := ds[i]) (List.getElem?_eq_getElem hi)
    exact ⟨vs, v, L.t _ _ h, hv⟩
  · obtain ⟨v, hv, rv⟩ := reps_at r hd
    obtain ⟨rfl, y⟩ := y
    have e := y vs (L.t _ _ h)
    rw [hv] at e
    cases e
    exact ⟨fun _ _ e => e, rv.mono L.t (Same.refl _) fun _ z => nomatch z⟩
theorem lst_look2 {m : Mode} {xs : List D} {a : Addr} {vs : List V} {A B : List Addr} (gh : Same G H) (rep : Rep W H G m (.lst xs) (.ref a) A) (ha : H a = some (.lst vs)) (hB : ∀ c ∈ A, c ∈ B) : lookAt G H B a = some (.lst vs) := by
  by_cases z : a ∈ B
  · rw [lookAt_in z]; exact ha
  · rw [lookAt_out z]
    cases rep with
    | lstF h r =>
      have e := gh _ _ h
      rw [ha] at e
      rw [h, e]
    | lstS h r => exact absurd (hB a (by simp)) z
    | lstO h r => exact absurd (hB a (by simp)) z
theorem lst_look {m : Mode} {xs : List D} {a : Addr} {vs : List V} {A : List Addr} (gh : Same G H) (rep : Rep W H G m (.lst xs) (.ref a) A) (ha : H a = some (.lst vs)) : lookAt G H A a = some (.lst vs) := lst_look2 gh rep ha fun _ z => z
def iSeq (K : PySem.W.Frag) (tl : TE) : TI := fun σ H R => tl σ H fun x H1 => ∃ a, x = .ref a ∧ (((∃ xs, SqL K H1 a xs) ∧ R (Itl K a) H1) ∨ ((∃ xs, SqT K H1 a xs) ∧ R (Itt K a) H1))
theorem pi_seq {X : Cx} {tg l : Expr} {tl : TE} (hl : PE X l tl) : PI X tg l (iSeq X.K tl) := by
  refine ⟨fun pins s σ H R I h => ?_⟩
  refine thn (hl.run pins s σ H _ I h) fun v s1 ⟨x, H1, I1, r1, q1⟩ => ?_
  obtain ⟨a, e, q⟩ := q1
  subst e
  cases r1
  rcases q with ⟨⟨xs, hq⟩, q⟩ | ⟨⟨xs, hq⟩, q⟩
  · obtain ⟨its, rv, p, hz⟩ := I1.list hq
    refine wpAny_pyIter_list p.isList ?_
    refine ⟨s1.heap.objs.size, [s1.heap.objs.size], _, _, H1, rfl, I1.kept (t' := s1.toks) fun b o e => Heap.get?_push_of_some _ e, turn_list a _, ⟨_, Heap.get?_push_size _ rfl, rfl, rfl⟩, fun b hb => ?_, q⟩
    have e : b = s1.heap.objs.size := by simpa using hb
    subst e
    exact I1.fpOk (Nat.le_refl _) (I1.hok.fresh (Nat.le_refl _))
  · obtain ⟨its, rv, p, hz⟩ := I1.tuple hq
    refine wpAny_pyIter_tuple (show s1.heap.IsTuple a its.toArray from p) ?_
    refine ⟨s1.heap.objs.size, [s1.heap.objs.size], _, _, H1, rfl, I1.kept (t' := s1.toks) fun b o e => Heap.get?_push_of_some _ e, turn_tuple a _, ⟨_, Heap.get?_push_size _ rfl, rfl, rfl⟩, fun b hb => ?_, q⟩
    have e : b = s1.heap.objs.size := by simpa using hb
    subst e
    exact I1.fpOk (Nat.le_refl _) (I1.hok.fresh (Nat.le_refl _))
theorem sim_isq {te : TE} {f : SE} (h : SimE W te f) : SimI W (iSeq W.K te) (iSq f) := by
  intro ρ σ H F G As ds ρ' R S e k
  unfold iSq at e
  split at e
  case h_2 => cases e
  rename_i r ρ1 e1
  obtain ⟨m, d⟩ := r
  split at e
  case h_3 => cases e
  · rename_i ds1 e2
    cases e
    simp only at e2
    subst e2
    refine h ρ σ H F G As _ _ _ S e1 fun v H1 G1 As1 B p rep t org => ?_
    obtain ⟨a, vs, rfl, ha, ra⟩ := rep_lst p.st.gh rep (lookAt_same t.g) fun a z => lookAt_in z
    exact ⟨a, rfl, .inl ⟨⟨vs, SqL.of ha⟩, k _ H1 _ As1 (p.look S t org) (lst_iter (lst_look p.st.gh rep ha) ra)⟩⟩
  · rename_i ds1 e2
    cases e
    simp only at e2
    subst e2
    refine h ρ σ H F G As _ _ _ S e1 fun v H1 G1 As1 B p rep t org => ?_
    obtain ⟨a, vs, rfl, ha, ra⟩ := rep_tup rep
    exact ⟨a, rfl, .inr ⟨⟨vs, ha⟩, k _ H1 _ As1 (p.look S t org) (tup_iter ha (ra.froze (lookAt_same t.g) fun a z => lookAt_in z))⟩⟩
theorem enumL_len : ∀ (n : Nat) (ds : List D), (enumL n ds).length = ds.length
  | _, [] => rfl
  | n, d :: ds => by rw [enumL, List.length_cons, List.length_cons, enumL_len]
theorem enumL_get : ∀ (n : Nat) (ds : List D) (i : Nat), (enumL n ds)[i]? = (ds[i]?).map fun d => .tup [.int ((n + i : Nat) : Int), d]
  | _, [], i => by simp [enumL]
  | n, d :: ds, 0 => by simp [enumL]
  | n, d :: ds, i + 1 => by
    rw [enumL, List.getElem?_cons_succ, List.getElem?_cons_succ, enumL_get]
    have e : n + 1 + i = n + (i + 1) := by omega
    rw [e]
theorem zipL_len : ∀ (ds es : List D), (zipL ds es).length = min ds.length es.length
  | [], es => by simp [zipL]
  | d :: ds, [] => by simp [zipL]
  | d :: ds, e :: es => by rw [zipL, List.length_cons, List.length_cons, List.length_cons, zipL_len]; omega
theorem zipL_get : ∀ (ds es : List D) (i : Nat) (t : D), (zipL ds es)[i]? = some t → ∃ d e, ds[i]? = some d ∧ es[i]? = some e ∧ t = .tup [d, e]
  | [], es, i, t, h => by simp [zipL] at h
  | d :: ds, [], i, t, h => by simp [zipL] at h
  | d :: ds, e :: es, 0, t, h => by
    rw [zipL] at h
    cases h
    exact ⟨d, e, rfl, rfl, rfl⟩
  | d :: ds, e :: es, i + 1, t, h => by
    rw [zipL, List.getElem?_cons_succ] at h
    obtain ⟨a, b, h1, h2, h3⟩ := zipL_get ds es i t h
    exact ⟨a, b, h1, h2, h3⟩
theorem pair_rep {T : Addr} {x y : V} {d e : D} (hT : H T = none) (h1 : Rep W H G .F d x []) (h2 : Rep W H G .F e y []) : Rep W (upd H T (.tup [x, y])) G .F (.tup [d, e]) (.ref T) [] := by
  have kp := upd_keep (u := .tup [x, y]) hT
  have T' := seqT_keep (W := W) kp
  refine .tup (SqT.of upd_same) ?_
  exact .cons (A := []) (B := []) (h1.mono T' (Same.refl _) fun _ z => nomatch z) (.cons (A := []) (B := []) (h2.mono T' (Same.refl _) fun _ z => nomatch z) (.nil _))
theorem sim_ienu {ta : TA} {fs : SA} (h : SimA W ta fs) : SimI W (iEnum W.K ta) (iEnu fs) := by
  intro ρ σ H F G As ds ρ' R S e k
  unfold iEnu at e
  split at e
  case h_2 => cases e
  rename_i r ρ1 e1
  split at e
  case h_2 => cases e
  rename_i ds1 e2
  cases e
  obtain ⟨m, d⟩ := r
  subst e2
  refine h ρ σ H F G As _ _ _ S e1 fun vs H1 G1 As1 B p rep t org => ?_
  obtain ⟨v, rfl, rep1⟩ := repL1 rep
  obtain ⟨a, vs, rfl, ha, ra⟩ := rep_lst p.st.gh rep1 (lookAt_same t.g) fun a z => lookAt_in z
  have hg : lookAt G1 H1 B a = some (.lst vs) := lst_look p.st.gh rep1 ha
  refine ⟨a, vs, rfl, SqL.of ha, k _ H1 _ As1 (p.look S t org) ?_⟩
  have el := ra.len
  refine ⟨fun H2 i L hi => ?_, fun H2 L => ⟨vs, SqL.of (L.g _ _ hg), by rw [enumL_len]; omega⟩, fun H2 i x H3 d L hd y => ?_⟩
  · rw [enumL_len] at hi
    obtain ⟨v, hv, _⟩ := reps_at ra (d := ds1[i]) (List.getElem?_eq_getElem hi)
    exact ⟨vs, v, SqL.of (L.g _ _ hg), hv⟩
  · rw [enumL_get] at hd
    cases e3 : ds1[i]? with
    | none => rw [e3] at hd; cases hd
    | some d1 =>
      rw [e3] at hd
      cases hd
      obtain ⟨v, hv, rv⟩ := reps_at ra e3
      obtain ⟨T, x1, rfl, hT, rfl, y⟩ := y
      have e := y vs (SqL.of (L.g _ _ hg))
      rw [hv] at e
      cases e
      refine ⟨upd_keep hT, ?_⟩
      rw [Nat.zero_add]
      exact pair_rep hT (.int _ _) (rv.mono L.t (Same.refl _) fun _ z => nomatch z)
theorem sim_izp {ta : TA} {fs : SA} (h : SimA W ta fs) : SimI W (iZipA W.K ta) (iZp fs) := by
  intro ρ σ H F G As ds ρ' R S e k
  unfold iZp at e
  split at e
  case h_2 => cases e
  rename_i r r2 ρ1 e1
  obtain ⟨m, d⟩ := r
  obtain ⟨m2, d2⟩ := r2
  split at e
  case h_3 => cases e
  · rename_i ds1 es1 e2 e3
    cases e
    simp only at e2 e3
    subst e2 e3
    refine h ρ σ H F G As _ _ _ S e1 fun vs H1 G1 As1 B p rep t org => ?_
    obtain ⟨v, u, A1, A2, rfl, rfl, rep1, rep2⟩ := repL2 rep
    obtain ⟨a, vs, rfl, ha, ra⟩ := rep_lst p.st.gh rep1 (lookAt_same t.g) fun a z => lookAt_in (List.mem_append_left _ z)
    obtain ⟨b, us, rfl, hb, rb⟩ := rep_lst p.st.gh rep2 (lookAt_same t.g) fun a z => lookAt_in (List.mem_append_right _ z)
    have hga : lookAt G1 H1 (A1 ++ A2) a = some (.lst vs) := lst_look2 p.st.gh rep1 ha fun c z => List.mem_append_left _ z
    have hgb : lookAt G1 H1 (A1 ++ A2) b = some (.lst us) := lst_look2 p.st.gh rep2 hb fun c z => List.mem_append_right _ z
    refine ⟨a, b, vs, us, rfl, .inl ⟨SqL.of ha, SqL.of hb, k _ H1 _ As1 (p.look S t org) ?_⟩⟩
    have el := ra.len
    have el2 := rb.len
    refine ⟨fun H2 i L hi => ?_, fun H2 L => ⟨vs, us, SqL.of (L.g _ _ hga), SqL.of (L.g _ _ hgb), by rw [zipL_len]; omega⟩, fun H2 i x H3 d L hd y => ?_⟩
    · rw [zipL_len] at hi
      obtain ⟨v, hv, _⟩ := reps_at ra (d := ds1[i]'(by omega)) (List.getElem?_eq_getElem _)
      obtain ⟨u, hu, _⟩ := reps_at rb (d := es1[i]'(by omega)) (List.getElem?_eq_getElem _)
      exact ⟨vs, us, v, u, SqL.of (L.g _ _ hga), SqL.of (L.g _ _ hgb), hv, hu⟩
    · obtain ⟨d1, d2, q1, q2, rfl⟩ := zipL_get _ _ _ _ hd
      obtain ⟨v, hv, rv⟩ := reps_at ra q1
      obtain ⟨u, hu, ru⟩ := reps_at rb q2
      obtain ⟨T, x1, y1, rfl, hT, rfl, y, y2⟩ := y
      have e := y vs (SqL.of (L.g _ _ hga))
      have e2 := y2 us (SqL.of (L.g _ _ hgb))
      rw [hv] at e
      rw [hu] at e2
      cases e
      cases e2
      exact ⟨upd_keep hT, pair_rep hT (rv.mono L.t (Same.refl _) fun _ z => nomatch z) (ru.mono L.t (Same.refl _) fun _ z => nomatch z)⟩
  · rename_i ds1 es1 e2 e3
    cases e
    simp only at e2 e3
    subst e2 e3
    refine h ρ σ H F G As _ _ _ S e1 fun vs H1 G1 As1 B p rep t org => ?_
    obtain ⟨v, u, A1, A2, rfl, rfl, rep1, rep2⟩ := repL2 rep
    obtain ⟨a, vs, rfl, ha, ra⟩ := rep_tup rep1
    obtain ⟨b, us, rfl, hb, rb⟩ := rep_tup rep2
    have ra := ra.froze (G' := lookAt G1 H1 (A1 ++ A2)) (lookAt_same t.g) fun a z => lookAt_in (List.mem_append_left _ z)
    have rb := rb.froze (G' := lookAt G1 H1 (A1 ++ A2)) (lookAt_same t.g) fun a z => lookAt_in (List.mem_append_right _ z)
    refine ⟨a, b, vs, us, rfl, .inr ⟨ha, hb, k _ H1 _ As1 (p.look S t org) ?_⟩⟩
    have el := ra.len
    have el2 := rb.len
    refine ⟨fun H2 i L hi => ?_, fun H2 L => ⟨vs, us, L.t _ _ ha, L.t _ _ hb, by rw [zipL_len]; omega⟩, fun H2 i x H3 d L hd y => ?_⟩
    · rw [zipL_len] at hi
      obtain ⟨v, hv, _⟩ := reps_at ra (d := ds1[i]'(by omega)) (List.getElem?_eq_getElem _)
      obtain ⟨u, hu, _⟩ := reps_at rb (d := es1[i]'(by omega)) (List.getElem?_eq_getElem _)
      exact ⟨vs, us, v, u, L.t _ _ ha, L.t _ _ hb, hv, hu⟩
    · obtain ⟨d1, d2, q1, q2, rfl⟩ := zipL_get _ _ _ _ hd
      obtain ⟨v, hv, rv⟩ := reps_at ra q1
      obtain ⟨u, hu, ru⟩ := reps_at rb q2
      obtain ⟨T, x1, y1, rfl, hT, rfl, y, y2⟩ := y
      have e := y vs (L.t _ _ ha)
      have e2 := y2 us (L.t _ _ hb)
      rw [hv] at e
      rw [hu] at e2
      cases e
      cases e2
      exact ⟨upd_keep hT, pair_rep hT (rv.mono L.t (Same.refl _) fun _ z => nomatch z) (ru.mono L.t (Same.refl _) fun _ z => nomatch z)⟩
theorem sim_irvs {ta : TA} {fs : SA} (h : SimA W ta fs) : SimI W (iRev W.K ta) (iRvs fs) := by
  intro ρ σ H F G As ds ρ' R S e k
  unfold iRvs at e
  split at e
  case h_2 => cases e
  rename_i r ρ1 e1
  split at e
  case h_2 => cases e
  rename_i ds1 e2
  cases e
  obtain ⟨m, d⟩ := r
  subst e2
  refine h ρ σ H F G As _ _ _ S e1 fun vs H1 G1 As1 B p rep t org => ?_
  obtain ⟨v, rfl, rep1⟩ := repL1 rep
  obtain ⟨a, vs, rfl, ha, ra⟩ := rep_lst p.st.gh rep1 (lookAt_same t.g) fun a z => lookAt_in z
  have hg : lookAt G1 H1 B a = some (.lst vs) := lst_look p.st.gh rep1 ha
  refine ⟨a, vs, rfl, SqL.of ha, k _ H1 _ As1 (p.look S t org) ?_⟩
  have el := ra.len
  refine ⟨fun H2 i L hi => ?_, fun H2 L => by show vs.length ≤ _; rw [List.length_reverse]; omega, fun H2 i x H3 d L hd y => ?_⟩
  · rw [List.length_reverse] at hi
    obtain ⟨v, hv, _⟩ := reps_at ra (i := vs.length - 1 - i) (d := ds1[vs.length - 1 - i]'(by omega)) (List.getElem?_eq_getElem _)
    exact ⟨by omega, vs, v, SqL.of (L.g _ _ hg), hv⟩
  · have hi := lt_of_get hd
    rw [List.length_reverse] at hi
    rw [List.getElem?_reverse hi, el] at hd
    obtain ⟨v, hv, rv⟩ := reps_at ra hd
    obtain ⟨rfl, y⟩ := y
    have e := y vs (SqL.of (L.g _ _ hg))
    rw [hv] at e
    cases e
    exact ⟨fun _ _ e => e, rv.mono L.t (Same.refl _) fun _ z => nomatch z⟩
theorem rng_iter {J : It} {ds : List D} (f : Nat → Int) (n : Nat) (hd : ds = (List.range n).map fun (k : Nat) => D.int (f k)) (h1 : ∀ H i, i < n → J.go i H) (h2 : ∀ H, J.stop n H) (h3 : ∀ H i x H', J.yld i H x H' → H' = H ∧ x = .int (f i)) : IterOk W J G H ds := by
  subst hd
  refine ⟨fun H1 i L hi => h1 H1 i (by simpa using hi), fun H1 L => by simpa using h2 H1, fun H1 i x H2 d L hd y => ?_⟩
  obtain ⟨rfl, rfl⟩ := h3 _ _ _ _ y
  have hi := lt_of_get hd
  rw [List.length_map, List.length_range] at hi
  rw [List.getElem?_map, List.getElem?_range hi] at hd
  cases hd
  exact ⟨fun _ _ e => e, .int _ _⟩
theorem sim_rng1 {ta : TA} {fs : SA} (h : SimA W ta fs) : SimI W (iRng1 ta) (iRange1 fs) := by
  intro ρ σ H F G As ds ρ' R S e k
  unfold iRange1 at e
  split at e
  case h_2 => cases e
  rename_i m j ρ1 e1
  split at e
  case isFalse => cases e
  rename_i hs
  cases e
  unfold small at hs
  replace hs := of_ok hs
  refine h ρ σ H F G As _ _ _ S e1 fun vs H1 G1 As1 B p rep t org => ?_
  obtain ⟨v, rfl, rep1⟩ := repL1 rep
  obtain ⟨rfl, rfl⟩ := rep_int rep1
  exact ⟨j, rfl, hs.1, hs.2, k _ H1 _ As1 p (rng_iter (fun k => 0 + (k : Int)) j.toNat rfl (fun _ _ h => h) (fun _ => Nat.le_refl _) fun _ _ _ _ y => y)⟩
theorem sim_rng2 {ta : TA} {fs : SA} (h : SimA W ta fs) : SimI W (iRng2 ta) (iRange2 fs) := by
  intro ρ σ H F G As ds ρ' R S e k
  unfold iRange2 at e
  split at e
  case h_2 => cases e
  rename_i m i m2 j ρ1 e1
  split at e
  case isFalse => cases e
  rename_i hs
  cases e
  unfold small at hs
  rw [Bool.and_eq_true] at hs
  replace hs := And.intro (of_ok hs.1) (of_ok hs.2)
  refine h ρ σ H F G As _ _ _ S e1 fun vs H1 G1 As1 B p rep t org => ?_
  obtain ⟨v, u, A1, A2, rfl, rfl, r1, r2⟩ := repL2 rep
  obtain ⟨rfl, rfl⟩ := rep_int r1
  obtain ⟨rfl, rfl⟩ := rep_int r2
  exact ⟨i, j, rfl, ⟨hs.1.1, hs.1.2, hs.2.1, hs.2.2⟩, k _ H1 _ As1 p (rng_iter (fun k => i + (k : Int)) (j - i).toNat rfl (fun _ _ h => h) (fun _ => Nat.le_refl _) fun _ _ _ _ y => y)⟩
theorem rangeSize_nn (i j c : Int) : 0 ≤ Builtin.Range.rangeSize i j c := by
  unfold Builtin.Range.rangeSize
  split
  · rename_i hc
    split
    · have : 0 ≤ (j - i - 1) / c := Int.ediv_nonneg (by omega) (by omega)
      omega
    · exact Int.le_refl 0
  · rename_i hc
    split
    · by_cases h : c = 0
      · subst h; simp
      · have : 0 ≤ (i - j - 1) / (-c) := Int.ediv_nonneg (by omega) (by omega)
        omega
    · exact Int.le_refl 0
theorem sim_rng3 {ta : TA} {fs : SA} (h : SimA W ta fs) : SimI W (iRng3 ta) (iRange3 fs) := by
  intro ρ σ H F G As ds ρ' R S e k
  unfold iRange3 at e
  split at e
  case h_2 => cases e
  rename_i m1 i m2 j m3 c ρ1 e1
  split at e
  case isFalse => cases e
  rename_i hs
  cases e
  refine h ρ σ H F G As _ _ _ S e1 fun vs H1 G1 As1 B p rep t org => ?_
  cases rep with
  | cons r1 rep =>
    obtain ⟨u, w, A1, A2, rfl, rfl, r2, r3⟩ := repL2 rep
    obtain ⟨rfl, rfl⟩ := rep_int r1
    obtain ⟨rfl, rfl⟩ := rep_int r2
    obtain ⟨rfl, rfl⟩ := rep_int r3
    replace hs := of_ok hs
    exact ⟨i, j, c, _, rfl, ⟨hs.1, hs.2.1, hs.2.2, (Int.toNat_of_nonneg (rangeSize_nn i j c)).symm⟩, k _ H1 _ As1 p (rng_iter (fun k => i + (k : Int) * c) _ rfl (fun _ _ h => h) (fun _ => Nat.le_refl _) fun _ _ _ _ y => y)⟩
end
end Tr

/-! TrLc: list comprehensions keep their tree meaning. -/
namespace Tr
open PySem L2
section
variable {W : Wd} {ρ ρ' ρ1 ρ2 : Env} {σ σ' σ1 σ2 : L2.St} {H F G H' F' G' H1 F1 G1 : Hp} {As As' As1 : Nat → List Addr} {B : List Addr}
theorem wipe_in {σ : L2.St} {i : Nat} : ∀ {vs : List Nat}, i ∈ vs → (wipe σ vs)[i]? = if i < σ.length then some none else none
  | [], h => nomatch h
  | v :: vs, h => by
    unfold wipe
    rw [get_set, wipe_length]
    by_cases e : i = v
    · subst e
      by_cases q : i < σ.length
      · rw [if_pos ⟨rfl, q⟩, if_pos q]
      · rw [if_neg (fun z => q z.2), if_neg q]
        exact List.getElem?_eq_none (by rw [wipe_length]; omega)
    · rw [if_neg (fun z => e z.1)]
      exact wipe_in ((List.mem_cons.mp h).resolve_left e)
theorem wipe_eq {σ σ' : L2.St} {vs : List Nat} (hl : σ'.length = σ.length) (h : ∀ j, j ∉ vs → σ'[j]? = σ[j]?) : wipe σ' vs = wipe σ vs := by
  apply List.ext_getElem?
  intro i
  by_cases q : i ∈ vs
  · rw [wipe_in q, wipe_in q, hl]
  · rw [wipe_out q, wipe_out q, h i q]
theorem wipe_wipe {σ : L2.St} {vs : List Nat} : wipe (wipe σ vs) vs = wipe σ vs :=
  wipe_eq (wipe_length _ _) fun j hj => wipe_out hj
theorem hide_get (ls es vs : List Nat) (ρ : Env) (i : Nat) : (hide ls es vs ρ)[i]? = (ρ[i]?).map fun s => if vs.contains i then none else if es.contains i then s else if ls.contains i then view1 s else none := by
  unfold hide
  rw [List.getElem?_mapIdx]
theorem wipeE_get (vs : List Nat) (ρ : Env) (i : Nat) : (wipeE vs ρ)[i]? = (ρ[i]?).map fun s => if vs.contains i then none else s := by
  unfold wipeE
  rw [List.getElem?_mapIdx]
theorem unhide_get (ls es vs : List Nat) (ρ ρb : Env) (i : Nat) : (unhide ls es vs ρ ρb)[i]? = (ρ[i]?).map fun s => if vs.contains i then s else if es.contains i then (ρb[i]?).getD none else if ls.contains i then lock1 s else s := by
  unfold unhide
  rw [List.getElem?_mapIdx]
theorem esOk_get {es vs : List Nat} {i : Nat} (h : esOk es vs ρ = true) (hi : i ∈ es) (hv : i ∉ vs) : ∃ s : Slot, ρ[i]? = some (some s) ∧ s.m = .O ∧ s.lk = false := by
  unfold esOk at h
  have q := List.all_eq_true.mp h i hi
  have hv' : vs.contains i = false := by simpa using hv
  rw [hv', Bool.false_or] at q
  split at q
  · rename_i s e
    rw [Bool.and_eq_true] at q
    exact ⟨s, e, of_decide_eq_true q.1, by simpa using q.2⟩
  · cases q
/-- the slots that are looked at within -/
def Lx (ls es vs : List Nat) (i : Nat) : Prop := i ∉ vs ∧ i ∉ es ∧ i ∈ ls
open Classical in
noncomputable def blkG (ls es vs : List Nat) (G H : Hp) (As : Nat → List Addr) : Hp := fun a => if ∃ i, Lx ls es vs i ∧ a ∈ As i then H a else G a
def blkA (es vs : List Nat) (As : Nat → List Addr) : Nat → List Addr := fun i => if !vs.contains i && es.contains i then As i else []
theorem blkA_sub {es vs : List Nat} {i : Nat} {a : Addr} (h : a ∈ blkA es vs As i) : i ∉ vs ∧ i ∈ es ∧ a ∈ As i := by
  unfold blkA at h
  split at h
  · rename_i q
    rw [Bool.and_eq_true] at q
    exact ⟨by simpa using q.1, by simpa using q.2, h⟩
  · cases h
theorem blkA_eq {es vs : List Nat} {i : Nat} (h1 : i ∉ vs) (h2 : i ∈ es) : blkA es vs As i = As i := by
  unfold blkA
  rw [if_pos]
  simp [h1, h2]
theorem blkG_in {ls es vs : List Nat} {a : Addr} {i : Nat} (h : Lx ls es vs i) (ha : a ∈ As i) : blkG ls es vs G H As a = H a := if_pos ⟨i, h, ha⟩
theorem blkG_out {ls es vs : List Nat} {a : Addr} (h : ∀ i, Lx ls es vs i → a ∉ As i) : blkG ls es vs G H As a = G a := if_neg fun ⟨i, h1, h2⟩ => h i h1 h2
theorem hide_sta {ls es vs : List Nat} (S : Sta W ρ σ H F G As) (ok : esOk es vs ρ = true) :
    Sta W (hide ls es vs ρ) (wipe σ vs) H (blkG ls es vs G H As) (blkG ls es vs G H As) (blkA es vs As) ∧ NoLk (hide ls es vs ρ) ∧ Same G (blkG ls es vs G H As) := by
  have gs : Same G (blkG ls es vs G H As) := fun a o e => by
    by_cases z : ∃ i, Lx ls es vs i ∧ a ∈ As i
    · obtain ⟨i, h1, h2⟩ := z
      rw [blkG_in h1 h2]
      exact S.gh a o e
    · rw [blkG_out fun i h1 h2 => z ⟨i, h1, h2⟩]
      exact e
  have gh : Same (blkG ls es vs G H As) H := fun a o e => by
    by_cases z : ∃ i, Lx ls es vs i ∧ a ∈ As i
    · obtain ⟨i, h1, h2⟩ := z
      rw [blkG_in h1 h2] at e
      exact e
    · rw [blkG_out fun i h1 h2 => z ⟨i, h1, h2⟩] at e
      exact S.gh a o e
  have get : ∀ (i : Nat) (s : Slot), (hide ls es vs ρ)[i]? = some (some s) → i ∉ vs ∧ ((i ∈ es ∧ ρ[i]? = some (some s)) ∨ (i ∉ es ∧ i ∈ ls ∧ ∃ t, ρ[i]? = some (some t) ∧ s = par t.d)) := fun i s h => by
    rw [hide_get] at h
    cases e : ρ[i]? with
    | none => rw [e] at h; cases h
    | some x =>
      rw [e] at h
      simp only [Option.map_some, Option.some.injEq] at h
      by_cases hv : i ∈ vs
      · simp [hv] at h
      by_cases he : i ∈ es
      · simp [hv, he] at h
        subst h
        exact ⟨hv, .inl ⟨he, rfl⟩⟩
      by_cases hl : i ∈ ls
      · simp [hv, he, hl] at h
        cases x with
        | none => cases h
        | some t =>
          simp [view1] at h
          exact ⟨hv, .inr ⟨he, hl, t, rfl, h.symm⟩⟩
      · simp [hv, he, hl] at h
  have nl : NoLk (hide ls es vs ρ) := fun i s h => by
    obtain ⟨hv, ⟨he, e⟩ | ⟨_, _, t, e, rfl⟩⟩ := get i s h
    · obtain ⟨s', e', _, l⟩ := esOk_get ok he hv
      rw [e] at e'
      cases e'
      exact l
    · rfl
  have fr : ∀ i a, a ∈ blkA es vs As i → blkG ls es vs G H As a = none := fun i a ha => by
    obtain ⟨hv, he, ha⟩ := blkA_sub ha
    obtain ⟨s, e, _, l⟩ := esOk_get ok he hv
    rw [blkG_out fun j hj hja => hj.2.1 (S.dj i j a ha hja ▸ he)]
    exact S.free i s e l a ha
  refine ⟨⟨by unfold hide; rw [List.length_mapIdx, wipe_length]; exact S.len, fun i s h => ?_, fun i s h l => ?_, fun i s h l a ha => fr i a ha, fun i h => ?_, fun i => ?_, fun i j a h1 h2 => S.dj i j a (blkA_sub h1).2.2 (blkA_sub h2).2.2, fr, Same.refl _, gh⟩, nl, gs⟩
  · obtain ⟨hv, ⟨he, e⟩ | ⟨he, hl, t, e, rfl⟩⟩ := get i s h
    · obtain ⟨v, h1, r⟩ := S.slot i s e
      refine ⟨v, by rw [wipe_out hv]; exact h1, ?_⟩
      rw [blkA_eq hv he]
      exact r.mono (fun _ _ z => z) (fun a o e => gs a o (S.fg a o e)) fun _ _ _ z => z
    · obtain ⟨v, h1, r⟩ := S.slot i t e
      refine ⟨v, by rw [wipe_out hv]; exact h1, ?_⟩
      have ea : blkA es vs As i = [] := by
        unfold blkA
        rw [if_neg]
        simp [he]
      rw [ea]
      exact rep_par (r.froze (fun a o e => gs a o (S.fg a o e)) fun a ha => blkG_in ⟨hv, he, hl⟩ ha)
  · rw [nl i s h] at l
    cases l
  · unfold blkA
    split
    · rename_i q
      rw [Bool.and_eq_true] at q
      have hv : i ∉ vs := by simpa using q.1
      have he : i ∈ es := by simpa using q.2
      obtain ⟨s, e, _, _⟩ := esOk_get ok he hv
      refine absurd ?_ (h s)
      rw [hide_get, e]
      simp [hv, he]
    · rfl
  · unfold blkA
    split
    · exact S.nd i
    · exact List.nodup_nil

theorem Step.tmp (p : Step W [] ρ σ H F As ρ' σ' H' F' As') {B : List Addr} (t : Tmp W σ H F As B) :
    Tmp W σ' H' F' As' B ∧ (∀ b ∈ B, ∀ o, H b = some o → H' b = some o) := by
  have k : ∀ b ∈ B, ∀ o, H b = some o → H' b = some o := fun b hb o e => p.keep b o e (fun i z => t.a b hb i z) fun z => nomatch z
  refine ⟨⟨t.nd, fun b hb => ?_, fun b hb e => t.h b hb (p.dom b e), fun b hb i z => ?_⟩, k⟩
  · cases z : F' b with
    | none => rfl
    | some o =>
      rcases p.fn b (t.g b hb) (by rw [z]; exact fun q => nomatch q) with y | ⟨i, y⟩ | y
      · exact absurd y (t.h b hb)
      · exact absurd y (t.a b hb i)
      · cases y
  · rcases p.an i b z with y | ⟨j, y⟩ | y
    · exact t.h b hb y
    · exact t.a b hb j y
    · cases y
theorem wipe_step {vs : List Nat} (hpv : ∀ i ∈ vs, W.pin i = false) (S : Sta W ρ σ H F F As) (n : NoLk ρ) (hw : wipe σ vs = σ') : ∃ As', Step W [] ρ σ H F As (wipeE vs ρ) σ' H F As' ∧ ∀ i a, a ∈ As' i → a ∈ As i := by
  subst hw
  have get : ∀ (i : Nat) (s : Slot), (wipeE vs ρ)[i]? = some (some s) → i ∉ vs ∧ ρ[i]? = some (some s) := fun i s h => by
    rw [wipeE_get] at h
    cases e : ρ[i]? with
    | none => rw [e] at h; cases h
    | some x =>
      rw [e] at h
      by_cases hv : i ∈ vs
      · simp [hv] at h
      · simp [hv] at h
        exact ⟨hv, by rw [h]⟩
  let As2 : Nat → List Addr := fun i => if vs.contains i then [] else As i
  have sub : ∀ i a, a ∈ As2 i → i ∉ vs ∧ a ∈ As i := fun i a h => by
    by_cases hv : i ∈ vs
    · have e : As2 i = [] := if_pos (by simpa using hv)
      rw [e] at h; cases h
    · have e : As2 i = As i := if_neg (by simpa using hv)
      rw [e] at h
      exact ⟨hv, h⟩
  have eq : ∀ i, i ∉ vs → As2 i = As i := fun i hv => if_neg (by simpa using hv)
  refine ⟨As2, ⟨⟨by unfold wipeE; rw [List.length_mapIdx, wipe_length]; exact S.len, fun i s h => ?_, fun i s h l => ?_, fun i s h l a ha => S.fo i a (sub i a ha).2, fun i h => ?_, fun i => ?_, fun i j a h1 h2 => S.dj i j a (sub i a h1).2 (sub j a h2).2, fun i a h => S.fo i a (sub i a h).2, Same.refl _, S.gh⟩, fun i s h => n i s (get i s h).2, fun _ _ e _ _ => e, fun _ e => e, Same.refl _, fun _ e q => absurd e q, fun i a h => .inr (.inl ⟨i, (sub i a h).2⟩), fun _ _ h => h, wipe_length _ _, fun i h => wipe_out fun z => by rw [hpv i z] at h; cases h⟩, fun i a h => (sub i a h).2⟩
  · obtain ⟨hv, e⟩ := get i s h
    obtain ⟨v, h1, r⟩ := S.slot i s e
    rw [eq i hv]
    exact ⟨v, by rw [wipe_out hv]; exact h1, r⟩
  · obtain ⟨hv, e⟩ := get i s h
    rw [n i s e] at l
    cases l
  · by_cases hv : i ∈ vs
    · exact if_pos (by simpa using hv)
    · rw [eq i hv]
      refine S.none i fun s z => h s ?_
      rw [wipeE_get, z]
      simp [hv]
  · by_cases hv : i ∈ vs
    · have e : As2 i = [] := if_pos (by simpa using hv)
      rw [e]; exact List.nodup_nil
    · rw [eq i hv]; exact S.nd i
/-- the new list grows; H0: ahead of it -/
theorem Step.updD {H0 F0 : Hp} {As0 : Nat → List Addr} {ρ0 : Env} {σ0 : L2.St} {D : Addr} {acc acc2 : List V} (p : Step W [] ρ0 σ0 H0 F0 As0 ρ σ H F As) (h0 : H0 D = none) (hD : H D = some (.lst acc)) (hA : ∀ i, D ∉ As i) (hF : F D = none) :
    Step W [] ρ0 σ0 H0 F0 As0 ρ σ (upd H D (.lst acc2)) F As := by
  have T : ∀ a vs, SqT W.K H a vs → SqT W.K (upd H D (.lst acc2)) a vs := fun a vs h => by
    have ne : ∀ o, H a = some o → ¬ Mutb o → a ≠ D := fun o e nm z => by
      rw [z, hD] at e
      cases e
      exact nm trivial
    rcases h with (h | ⟨o, h⟩) | h
    · exact .inl (.inl (by rw [upd_ne (ne _ h fun z => z)]; exact h))
    · exact .inl (.inr ⟨o, by rw [upd_ne (ne _ h fun z => z)]; exact h⟩)
    · exact .inr h
  refine ⟨⟨p.st.len, fun i s h => ?_, fun i s h l => ?_, p.st.free, p.st.none, p.st.nd, p.st.dj, p.st.fo, Same.refl _, fun a o e => ?_⟩, p.nl, fun a o e n _ => ?_, fun a e => ?_, p.ff, p.fn, p.an, fun a vs h => T a vs (p.tp a vs h), p.ln, p.pn⟩
  · obtain ⟨v, h1, r⟩ := p.st.slot i s h
    refine ⟨v, h1, r.mono T (Same.refl _) fun a ha o e => ?_⟩
    rw [upd_ne (fun (z : a = D) => hA i (z ▸ ha))]
    exact e
  · rw [p.nl i s h] at l
    cases l
  · rw [upd_ne fun z => by rw [z, hF] at e; cases e]
    exact p.st.gh a o e
  · rw [upd_ne fun z => by rw [z, h0] at e; cases e]
    exact p.keep a o e n fun z => nomatch z
  · by_cases z : a = D
    · rw [z, upd_same] at e
      cases e
    · rw [upd_ne z] at e
      exact p.dom a e
theorem repL_append : ∀ {rs ss : List Val} {vs us : List V} {A B : List Addr}, RepL W H G rs vs A → RepL W H G ss us B → RepL W H G (rs ++ ss) (vs ++ us) (A ++ B)
  | _, _, _, _, _, _, .nil, q => q
  | _, _, _, _, _, _, .cons h r, q => by
    rw [List.append_assoc]
    exact .cons h (repL_append r q)
theorem sim_yes : SimT W tYes sYes := by
  intro ρ σ H F G As b ρ' Q S e k
  cases e
  exact k H As (Post.refl S) fun n => n

/-- what is there at each turn of a comprehension -/
structure Blk (W : Wd) (vs : List Nat) (D : Addr) (ρ0 : Env) (σ : L2.St) (H0 F0 : Hp) (As0 : Nat → List Addr) (ρ : Env) (H F : Hp) (As : Nat → List Addr) (rs : List Val) (B : List Addr) : Prop where
  s : Step W [] ρ0 (wipe σ vs) H0 F0 As0 ρ (wipe σ vs) H F As
  d : ∃ acc, H D = some (.lst acc) ∧ RepL W H F rs acc B
  t : Tmp W (wipe σ vs) H F As (D :: B)
  o : ∀ b ∈ B, H0 b = none ∨ ∃ j, b ∈ As0 j

theorem lc_end {ls es vs : List Nat} {D : Addr} {rs : List Val} {Fb : Hp} {Asb : Nat → List Addr} {Q : VK} (S : Sta W ρ σ H F G As) (p : Post W ρ σ H F G As ρ1 H1 G1 As1) (ok1 : esOk es vs ρ1 = true) (ok2 : esOk es vs ρ2 = true)
    (g1 : Same G1 (blkG ls es vs G1 H1 As1)) (hD : H1 D = none) (bk : Blk W vs D (hide ls es vs ρ1) σ H1 (blkG ls es vs G1 H1 As1) (blkA es vs As1) ρ2 H' Fb Asb rs B)
    (k : ∀ v H' G' As' B, Post W ρ σ H F G As (unhide ls es vs ρ1 ρ2) H' G' As' → Rep W H' G' (if allO rs then (⟨.O, .lst (rs.map fun (x : Val) => x.d)⟩ : Val) else ⟨.S, .lst (rs.map fun (x : Val) => x.d)⟩).m (if allO rs then (⟨.O, .lst (rs.map fun (x : Val) => x.d)⟩ : Val) else ⟨.S, .lst (rs.map fun (x : Val) => x.d)⟩).d v B → Tmp W σ H' G' As' B → (∀ b ∈ B, H b = none ∨ ∃ i, b ∈ As i) → Q v H') : Q (.ref D) H' := by
  obtain ⟨acc, hacc, racc⟩ := bk.d
  have ownA : ∀ i a, a ∈ As1 i → H1 a ≠ none := fun i a h z => by
    obtain ⟨o, eo, _⟩ := p.st.own h
    rw [eo] at z
    cases z
  -- what is owned outside the block's own slots stays
  have out : ∀ i a, a ∈ As1 i → (i ∈ vs ∨ i ∉ es) → (∀ j, a ∉ blkA es vs As1 j) := fun i a h hi j z => by
    obtain ⟨h1, h2, h3⟩ := blkA_sub z
    have e := p.st.dj i j a h h3
    subst e
    rcases hi with hi | hi
    · exact h1 hi
    · exact hi h2
  have kp : ∀ i a o, a ∈ As1 i → (i ∈ vs ∨ i ∉ es) → H1 a = some o → H' a = some o := fun i a o h hi e => bk.s.keep a o e (out i a h hi) fun z => nomatch z
  let As3 : Nat → List Addr := fun i => if !vs.contains i && es.contains i then Asb i else As1 i
  have a3e : ∀ i, i ∉ vs → i ∈ es → As3 i = Asb i := fun i h1 h2 => if_pos (by simp [h1, h2])
  have a3n : ∀ i, (i ∈ vs ∨ i ∉ es) → As3 i = As1 i := fun i h => if_neg (by
    rcases h with h | h
    · simp [h]
    · simp [h])
  have unl : ∀ j a, a ∈ blkA es vs As1 j → Unl ρ1 As1 a := fun j a z => by
    obtain ⟨h1, h2, h3⟩ := blkA_sub z
    obtain ⟨s, e, _, l⟩ := esOk_get ok1 h2 h1
    exact ⟨j, s, e, l, h3⟩
  have get : ∀ (i : Nat) (s : Slot), (unhide ls es vs ρ1 ρ2)[i]? = some (some s) →
      ((i ∈ vs ∨ (i ∉ es ∧ i ∉ ls)) ∧ ρ1[i]? = some (some s)) ∨ (i ∉ vs ∧ i ∈ es ∧ ρ2[i]? = some (some s) ∧ s.m = .O ∧ s.lk = false) ∨ (i ∉ vs ∧ i ∉ es ∧ i ∈ ls ∧ ∃ t, ρ1[i]? = some (some t) ∧ s = if t.m = .F then t else { t with lk := true }) := fun i s h => by
    rw [unhide_get] at h
    cases e : ρ1[i]? with
    | none => rw [e] at h; cases h
    | some x =>
      rw [e] at h
      simp only [Option.map_some, Option.some.injEq] at h
      by_cases hv : i ∈ vs
      · simp [hv] at h
        exact .inl ⟨.inl hv, by rw [h]⟩
      by_cases he : i ∈ es
      · simp [hv, he] at h
        obtain ⟨s2, e2, m2, l2⟩ := esOk_get ok2 he hv
        rw [e2] at h
        cases h
        exact .inr (.inl ⟨hv, he, e2, m2, l2⟩)
      by_cases hl : i ∈ ls
      · simp [hv, he, hl] at h
        cases x with
        | none => cases h
        | some t =>
          simp [lock1] at h
          exact .inr (.inr ⟨hv, he, hl, t, rfl, h.symm⟩)
      · simp [hv, he, hl] at h
        exact .inl ⟨.inr ⟨he, hl⟩, by rw [h]⟩
  have bg : ∀ G', (G' = Fb ∨ G' = lookAt Fb H' B) → Post W ρ1 σ H1 F G1 As1 (unhide ls es vs ρ1 ρ2) H' G' As3 := fun G' hG => by
    have tB : ∀ b ∈ B, b ∈ D :: B := fun b hb => List.mem_cons_of_mem _ hb
    have fG : Same Fb G' := by
      rcases hG with rfl | rfl
      · exact Same.refl _
      · exact lookAt_same fun b hb => bk.t.g b (tB b hb)
    have gh : Same G' H' := by
      rcases hG with rfl | rfl
      · exact bk.s.st.gh
      · exact lookAt_sub bk.s.st.gh
    have inB : ∀ a, Fb a = none → G' a ≠ none → a ∈ B := fun a e n => by
      rcases hG with rfl | rfl
      · exact absurd e n
      · by_cases z : a ∈ B
        · exact z
        · rw [lookAt_out z] at n
          exact absurd e n
    have gg : Same G1 G' := fun a o e => fG a o (bk.s.ff a o (g1 a o e))
    have freeO : ∀ (i : Nat) (s : Slot) a, ρ1[i]? = some (some s) → s.lk = false → (i ∈ vs ∨ (i ∉ es ∧ i ∉ ls)) → a ∈ As1 i → G' a = none := fun i s a e l hi ha => by
      have hi' : i ∈ vs ∨ i ∉ es := hi.imp id And.left
      have b0 : blkG ls es vs G1 H1 As1 a = none := by
        rw [blkG_out fun j hj hja => ?_]
        · exact p.st.free i s e l a ha
        · have ij := p.st.dj i j a ha hja
          subst ij
          rcases hi with z | z
          · exact hj.1 z
          · exact z.2 hj.2.2
      have f0 : Fb a = none := by
        cases z : Fb a with
        | none => rfl
        | some o =>
          rcases bk.s.fn a b0 (by rw [z]; exact fun q => nomatch q) with y | ⟨j, y⟩ | y
          · exact absurd y (ownA i a ha)
          · exact absurd y (out i a ha hi' j)
          · cases y
      cases z : G' a with
      | none => rfl
      | some o =>
        have hB := inB a f0 (by rw [z]; exact fun q => nomatch q)
        rcases bk.o a hB with y | ⟨j, y⟩
        · exact absurd y (ownA i a ha)
        · exact absurd y (out i a ha hi' j)
    refine ⟨⟨by unfold unhide; rw [List.length_mapIdx]; exact p.st.len, fun i s h => ?_, fun i s h l a ha => ?_, fun i s h l a ha => ?_, fun i h => ?_, fun i => ?_, fun i j a h1 h2 => ?_, fun i a h => ?_, fun a o e => gg a o (p.st.fg a o e), gh⟩, fun a o e n => ?_, bk.s.dom, gg, fun a e n => ?_, fun i a h => ?_, fun a h => ?_, fun i s e l => ?_, fun i e => ?_⟩
    · rcases get i s h with ⟨hi, e⟩ | ⟨hv, he, e, hm, _⟩ | ⟨hv, he, hl, t, e, rfl⟩
      · have hi' : i ∈ vs ∨ i ∉ es := hi.imp id And.left
        obtain ⟨v, h1, r⟩ := p.st.slot i s e
        rw [a3n i hi']
        exact ⟨v, h1, r.mono bk.s.tp (Same.refl _) fun a ha o eo => kp i a o ha hi' eo⟩
      · obtain ⟨v, h1, r⟩ := bk.s.st.slot i s e
        rw [wipe_out hv] at h1
        rw [a3e i hv he]
        exact ⟨v, h1, r.anyG hm⟩
      · obtain ⟨v, h1, r⟩ := p.st.slot i t e
        rw [a3n i (.inr he)]
        refine ⟨v, h1, ?_⟩
        have r2 := r.mono bk.s.tp (Same.refl _) fun a ha o eo => kp i a o ha (.inr he) eo
        split <;> exact r2
    · rcases get i s h with ⟨hi, e⟩ | ⟨hv, he, e, hm, l2⟩ | ⟨hv, he, hl, t, e, rfl⟩
      · have hi' : i ∈ vs ∨ i ∉ es := hi.imp id And.left
        rw [a3n i hi'] at ha
        obtain ⟨o, eo, _⟩ := p.st.own ha
        rw [kp i a o ha hi' eo]
        exact gg a o ((p.st.lock i s e l a ha).trans eo)
      · rw [l2] at l; cases l
      · rw [a3n i (.inr he)] at ha
        obtain ⟨o, eo, _⟩ := p.st.own ha
        rw [kp i a o ha (.inr he) eo]
        exact fG a o (bk.s.ff a o ((blkG_in ⟨hv, he, hl⟩ ha).trans eo))
    · rcases get i s h with ⟨hi, e⟩ | ⟨hv, he, e, hm, l2⟩ | ⟨hv, he, hl, t, e, rfl⟩
      · rw [a3n i (hi.imp id And.left)] at ha
        exact freeO i s a e l hi ha
      · rw [a3e i hv he] at ha
        cases z : G' a with
        | none => rfl
        | some o => exact absurd ha (bk.t.a a (tB a (inB a (bk.s.st.fo i a ha) (by rw [z]; exact fun q => nomatch q))) i)
      · rw [a3n i (.inr he)] at ha
        obtain ⟨v, h1, r⟩ := p.st.slot i t e
        by_cases hm : t.m = .F
        · rw [r.Fnil hm] at ha; cases ha
        · rw [if_neg hm] at l; cases l
    · by_cases q : i ∉ vs ∧ i ∈ es
      · obtain ⟨s1, e1, _, _⟩ := esOk_get ok1 q.2 q.1
        obtain ⟨s2, e2, _, _⟩ := esOk_get ok2 q.2 q.1
        refine absurd ?_ (h s2)
        rw [unhide_get, e1, e2]
        simp [q.1, q.2]
      · have hi : i ∈ vs ∨ i ∉ es := Classical.byContradiction fun z => q ⟨fun y => z (.inl y), Classical.byContradiction fun y => z (.inr y)⟩
        rw [a3n i hi]
        refine p.st.none i fun s z => ?_
        by_cases hv : i ∈ vs
        · exact h s (by rw [unhide_get, z]; simp [hv])
        · have he : i ∉ es := hi.resolve_left hv
          by_cases hl : i ∈ ls
          · refine h (if s.m = .F then s else { s with lk := true }) ?_
            rw [unhide_get, z]
            simp [hv, he, hl, lock1]
          · exact h s (by rw [unhide_get, z]; simp [hv, he, hl])
    · by_cases q : i ∉ vs ∧ i ∈ es
      · rw [a3e i q.1 q.2]; exact bk.s.st.nd i
      · rw [a3n i (Classical.byContradiction fun z => q ⟨fun y => z (.inl y), Classical.byContradiction fun y => z (.inr y)⟩)]
        exact p.st.nd i
    · have mix : ∀ i j a, (i ∉ vs ∧ i ∈ es) → (j ∈ vs ∨ j ∉ es) → a ∈ Asb i → a ∈ As1 j → False := fun i j a hi hj h1 h2 => by
        rcases bk.s.an i a h1 with y | ⟨l, y⟩ | y
        · exact ownA j a h2 y
        · exact out j a h2 hj l y
        · cases y
      by_cases q : i ∉ vs ∧ i ∈ es <;> by_cases q2 : j ∉ vs ∧ j ∈ es
      · rw [a3e i q.1 q.2] at h1
        rw [a3e j q2.1 q2.2] at h2
        exact bk.s.st.dj i j a h1 h2
      · have hj : j ∈ vs ∨ j ∉ es := Classical.byContradiction fun z => q2 ⟨fun y => z (.inl y), Classical.byContradiction fun y => z (.inr y)⟩
        rw [a3e i q.1 q.2] at h1
        rw [a3n j hj] at h2
        exact (mix i j a q hj h1 h2).elim
      · have hi : i ∈ vs ∨ i ∉ es := Classical.byContradiction fun z => q ⟨fun y => z (.inl y), Classical.byContradiction fun y => z (.inr y)⟩
        rw [a3n i hi] at h1
        rw [a3e j q2.1 q2.2] at h2
        exact (mix j i a q2 hi h2 h1).elim
      · have hi : i ∈ vs ∨ i ∉ es := Classical.byContradiction fun z => q ⟨fun y => z (.inl y), Classical.byContradiction fun y => z (.inr y)⟩
        have hj : j ∈ vs ∨ j ∉ es := Classical.byContradiction fun z => q2 ⟨fun y => z (.inl y), Classical.byContradiction fun y => z (.inr y)⟩
        rw [a3n i hi] at h1
        rw [a3n j hj] at h2
        exact p.st.dj i j a h1 h2
    · by_cases q : i ∉ vs ∧ i ∈ es
      · rw [a3e i q.1 q.2] at h
        have f0 := bk.s.st.fo i a h
        cases z : F a with
        | none => rfl
        | some o =>
          rw [bk.s.ff a o (g1 a o (p.st.fg a o z))] at f0
          cases f0
      · rw [a3n i (Classical.byContradiction fun z => q ⟨fun y => z (.inl y), Classical.byContradiction fun y => z (.inr y)⟩)] at h
        exact p.st.fo i a h
    · exact bk.s.keep a o e (fun j z => n (unl j a z)) fun z => nomatch z
    · have fin : (H1 a = none ∨ ∃ j, a ∈ blkA es vs As1 j) → H1 a = none ∨ ∃ i, a ∈ As1 i := fun h => h.imp id fun ⟨j, y⟩ => ⟨j, (blkA_sub y).2.2⟩
      cases z : Fb a with
      | none => exact fin (bk.o a (inB a z n))
      | some o =>
        cases z2 : blkG ls es vs G1 H1 As1 a with
        | none =>
          rcases bk.s.fn a z2 (by rw [z]; exact fun q => nomatch q) with y | y | y
          · exact .inl y
          · exact fin (.inr y)
          · cases y
        | some o2 =>
          by_cases q : ∃ i, Lx ls es vs i ∧ a ∈ As1 i
          · obtain ⟨i, _, y⟩ := q
            exact .inr ⟨i, y⟩
          · rw [blkG_out fun i h1 h2 => q ⟨i, h1, h2⟩, e] at z2
            cases z2
    · by_cases q : i ∉ vs ∧ i ∈ es
      · rw [a3e i q.1 q.2] at h
        rcases bk.s.an i a h with y | ⟨j, y⟩ | y
        · exact .inr y
        · exact .inl ⟨j, (blkA_sub y).2.2⟩
        · cases y
      · rw [a3n i (Classical.byContradiction fun z => q ⟨fun y => z (.inl y), Classical.byContradiction fun y => z (.inr y)⟩)] at h
        exact .inl ⟨i, h⟩
    · obtain ⟨i, s, h1, h2, h3⟩ := h
      rcases get i s h1 with ⟨hi, e⟩ | ⟨hv, he, e, hm, l2⟩ | ⟨hv, he, hl, t, e, rfl⟩
      · rw [a3n i (hi.imp id And.left)] at h3
        exact .inl ⟨i, s, e, h2, h3⟩
      · rw [a3e i hv he] at h3
        rcases bk.s.an i a h3 with y | ⟨j, y⟩ | y
        · exact .inr y
        · exact .inl (unl j a y)
        · cases y
      · rw [a3n i (.inr he)] at h3
        obtain ⟨v, _, r⟩ := p.st.slot i t e
        by_cases hm : t.m = .F
        · rw [r.Fnil hm] at h3; cases h3
        · rw [if_neg hm] at h2; cases h2
    · by_cases hv : i ∈ vs
      · exact ⟨by rw [unhide_get, e]; simp [hv], a3n i (.inl hv)⟩
      by_cases he : i ∈ es
      · obtain ⟨s1, e1, _, l1⟩ := esOk_get ok1 he hv
        rw [e] at e1
        cases e1
        rw [l] at l1
        cases l1
      by_cases hl : i ∈ ls
      · refine ⟨?_, a3n i (.inr he)⟩
        rw [unhide_get, e]
        obtain ⟨sm, sl, sd⟩ := s
        simp only at l
        subst l
        simp [hv, he, hl, lock1]
      · exact ⟨by rw [unhide_get, e]; simp [hv, he, hl], a3n i (.inr he)⟩
    · by_cases hv : i ∈ vs
      · rw [unhide_get, e]; simp [hv]
      by_cases he : i ∈ es
      · obtain ⟨s1, e1, _, l1⟩ := esOk_get ok1 he hv
        rw [e] at e1
        cases e1
      by_cases hl : i ∈ ls
      · rw [unhide_get, e]
        simp [hv, he, hl, lock1]
      · rw [unhide_get, e]; simp [hv, he, hl]
  have ta : ∀ b ∈ D :: B, ∀ i, b ∉ As3 i := fun b hb i z => by
    by_cases q : i ∉ vs ∧ i ∈ es
    · rw [a3e i q.1 q.2] at z
      exact bk.t.a b hb i z
    · have hi : i ∈ vs ∨ i ∉ es := Classical.byContradiction fun z => q ⟨fun y => z (.inl y), Classical.byContradiction fun y => z (.inr y)⟩
      rw [a3n i hi] at z
      rcases List.mem_cons.mp hb with y | hb
      · exact ownA i b z (y ▸ hD)
      · rcases bk.o b hb with y | ⟨j, y⟩
        · exact ownA i b z y
        · exact out i b z hi j y
  have og : ∀ b ∈ D :: B, H b = none ∨ ∃ i, b ∈ As i := fun b hb => by
    rcases List.mem_cons.mp hb with y | hb
    · exact .inl (p.dom b (y ▸ hD))
    · rcases bk.o b hb with y | ⟨j, y⟩
      · exact .inl (p.dom b y)
      · rcases p.an j b (blkA_sub y).2.2 with y | y
        · exact .inr y
        · exact .inl y
  by_cases hO : allO rs = true
  · rw [if_pos hO] at k
    refine k (.ref D) H' Fb As3 (D :: B) (p.trans S (bg Fb (.inl rfl))) (.lstO hacc (repL_O racc hO)) ⟨bk.t.nd, bk.t.g, bk.t.h, ta⟩ og
  · rw [if_neg hO] at k
    refine k (.ref D) H' (lookAt Fb H' B) As3 [D] (p.trans S (bg _ (.inr rfl))) (.lstS hacc ?_) ⟨by simp, fun b hb => ?_, fun b hb => ?_, fun b hb i => ?_⟩ fun b hb => ?_
    · exact racc.froze (lookAt_same fun b hb => bk.t.g b (List.mem_cons_of_mem _ hb)) fun a ha => lookAt_in ha
    · rw [List.mem_singleton] at hb
      subst hb
      rw [lookAt_out (List.nodup_cons.mp bk.t.nd).1]
      exact bk.t.g b List.mem_cons_self
    · rw [List.mem_singleton] at hb
      subst hb
      exact bk.t.h b List.mem_cons_self
    · rw [List.mem_singleton] at hb
      subst hb
      exact ta b List.mem_cons_self i
    · rw [List.mem_singleton] at hb
      subst hb
      exact og b List.mem_cons_self
theorem sim_lc {wi : TI} {g : TG} {tt : TT} {te : TE} {ls es vs : List Nat} {src : SI} {gf : STg} {tf : SB} {f : SE} (hpv : ∀ i ∈ vs, W.pin i = false) (hi : SimI W wi src) (hg : SimG W vs g gf) (ht : SimT W tt tf) (hf : SimE W te f) :
    SimE W (tLc wi g tt te vs) (sLc ls es vs src gf tf f) := by
  refine sim_seal ?_
  intro ρ σ H F G As r ρ' Q S e k
  simp only at e
  split at e
  case h_2 => cases e
  rename_i ds1 ρ1 e1
  split at e
  case isFalse => cases e
  rename_i ok1
  split at e
  case h_2 => cases e
  rename_i rs ρ2 e2
  split at e
  case isFalse => cases e
  rename_i ok2
  refine hi ρ σ H F G As _ _ _ S e1 fun J H1 G1 As1 p it => ?_
  obtain ⟨S1, n1, g1⟩ := hide_sta (ls := ls) p.st ok1
  intro D hD
  -- the invariant
  refine ⟨fun i m H' => m = ds1.length - i ∧ i ≤ ds1.length ∧ ∃ ρb Fb Asb acc B, Blk W vs D (hide ls es vs ρ1) σ H1 (blkG ls es vs G1 H1 As1) (blkA es vs As1) ρb H' Fb Asb acc B ∧ lcGo gf tf f vs (ds1.drop i) ρb acc = some (rs, ρ2),
    ⟨ds1.length, by simp, Nat.zero_le _, hide ls es vs ρ1, blkG ls es vs G1 H1 As1, blkA es vs As1, [], [], ?_, by simpa using e2⟩, ?_⟩
  · have kp := upd_keep (u := .lst []) hD
    have gst := grow_step S1 n1 kp
    have hA : ∀ i, D ∉ blkA es vs As1 i := fun i z => by
      obtain ⟨o, eo, _⟩ := S1.own z
      rw [hD] at eo
      cases eo
    have hF : blkG ls es vs G1 H1 As1 D = none := by
      cases z : blkG ls es vs G1 H1 As1 D with
      | none => rfl
      | some o => rw [S1.gh D o z] at hD; cases hD
    refine ⟨gst, ⟨[], upd_same, .nil⟩, ⟨by simp, fun b hb => ?_, fun b hb => ?_, fun b hb => ?_⟩, fun _ z => (nomatch z)⟩
    · rw [List.mem_singleton] at hb; subst hb; exact hF
    · rw [List.mem_singleton] at hb; subst hb; rw [upd_same]; exact fun z => nomatch z
    · rw [List.mem_singleton] at hb; subst hb; exact hA
  rintro i m H' ⟨rfl, hle, ρb, Fb, Asb, acc, B, bk, e3⟩
  have L : Later W G1 H1 H' := ⟨fun a o e => bk.s.st.gh a o (bk.s.ff a o (g1 a o e)), bk.s.tp⟩
  by_cases hlt : i < ds1.length
  · refine .inr ⟨it.go H' i L hlt, fun H2 => ∃ ρb2 Fb2 Asb2 acc2 B2, Blk W vs D (hide ls es vs ρ1) σ H1 (blkG ls es vs G1 H1 As1) (blkA es vs As1) ρb2 H2 Fb2 Asb2 acc2 B2 ∧ lcGo gf tf f vs (ds1.drop (i + 1)) ρb2 acc2 = some (rs, ρ2),
      fun H2 z => ⟨ds1.length - (i + 1), by omega, rfl, hlt, z⟩, fun x H2 y => ?_⟩
    obtain ⟨kp, rx⟩ := it.yld H' i x H2 ds1[i] L (List.getElem?_eq_getElem hlt) y
    have ed : ds1.drop i = ds1[i] :: ds1.drop (i + 1) := List.drop_eq_getElem_cons hlt
    rw [ed, lcGo] at e3
    split at e3
    case h_2 => cases e3
    rename_i ρ3 e4
    have s2 := grow_step bk.s.st bk.s.nl kp
    have g2 : Same G1 Fb := fun a o e => bk.s.ff a o (g1 a o e)
    refine hg _ _ H2 Fb Asb _ x [] _ _ s2.st s2.nl ((rx.mono (fun _ _ z => z) g2 fun _ z => nomatch z).nrm) tmp_nil e4 fun σ3 H3 F3 As3 s3 w3 => ?_
    have hw : wipe σ3 vs = wipe σ vs := by
      have q := wipe_eq (vs := vs) (σ' := σ3) (σ := wipe σ vs) s3.ln w3
      rw [q, wipe_wipe]
    refine ⟨hw, ?_⟩
    cases e5 : tf ρ3 with
    | none => simp only [e5] at e3; cases e3
    | some tb =>
      obtain ⟨b, ρ4⟩ := tb
      refine ht _ σ3 H3 F3 F3 As3 b ρ4 _ s3.st e5 fun H4 As4 p4 l4 => ?_
      have s4 := test_step (b := b) s3.st s3.nl p4 (l4 s3.nl)
      have st := (s2.trans s3 fun _ z => nomatch z).trans s4 fun _ z => nomatch z
      cases b with
      | false =>
        simp only [e5] at e3
        refine iteF ?_
        obtain ⟨As5, s5, sub5⟩ := wipe_step hpv s4.st s4.nl hw
        have st := st.trans s5 fun _ z => nomatch z
        obtain ⟨t5, k5⟩ := st.tmp bk.t
        obtain ⟨al, ha, ra⟩ := bk.d
        exact ⟨_, F3, As5, acc, B, ⟨bk.s.trans st fun _ z => (nomatch z), ⟨al, k5 D (by simp) _ ha, ra.mono st.tp st.ff fun a z => k5 a (List.mem_cons_of_mem _ z)⟩, t5, bk.o⟩, e3⟩
      | true =>
        simp only [e5] at e3
        refine iteT ?_
        cases e6 : f ρ4 with
        | none => simp only [e6] at e3; cases e3
        | some ry =>
          obtain ⟨r1, ρ5⟩ := ry
          simp only [e6] at e3
          split at e3
          case isFalse => cases e3
          rename_i hsz
          refine hf _ σ3 H4 F3 F3 As4 r1 ρ5 _ s4.st e6 fun yv H5 G5 As5 B5 p5 rep5 t5 o5 => ?_
          obtain ⟨F6, As6, s6, rep6, t6⟩ := settle_ok s4.st s4.nl p5 rep5 t5 o5
          obtain ⟨As7, s7, sub7⟩ := wipe_step hpv s6.st s6.nl hw
          have st0 := st
          have st := (st.trans s6 fun _ z => nomatch z).trans s7 fun _ z => nomatch z
          obtain ⟨t7, k7⟩ := st.tmp bk.t
          obtain ⟨t4, k4⟩ := st0.tmp bk.t
          obtain ⟨al, ha, ra⟩ := bk.d
          have haD : H5 D = some (.lst al) := k7 D (by simp) _ ha
          have ra7 : RepL W H5 F6 acc al B := ra.mono st.tp st.ff fun a z => k7 a (List.mem_cons_of_mem _ z)
          have hz : al.length = acc.length := (repL_len ra).symm
          refine ⟨al, haD, by rw [hz]; exact of_ok hsz, _, F6, As7, acc ++ [r1], B ++ B5, ?_, e3⟩
          -- B5 stands apart
          have dj : ∀ b ∈ B5, b ∉ D :: B := fun b hb z => by
            rcases o5 b hb with y | ⟨j, y⟩
            · exact t4.h b z y
            · exact t4.a b z j y
          have n7 := List.nodup_cons.mp t7.nd
          have bs := bk.s.trans st fun _ z => nomatch z
          have T : ∀ a us, SqT W.K H5 a us → SqT W.K (upd H5 D (.lst (al ++ [yv]))) a us := fun a us h => by
            have ne : ∀ o, H5 a = some o → ¬ Mutb o → a ≠ D := fun o e nm z => by
              rw [z, haD] at e
              cases e
              exact nm trivial
            rcases h with (h | ⟨o, h⟩) | h
            · exact .inl (.inl (by rw [upd_ne (ne _ h fun z => z)]; exact h))
            · exact .inl (.inr ⟨o, by rw [upd_ne (ne _ h fun z => z)]; exact h⟩)
            · exact .inr h
          have repn : RepL W (upd H5 D (.lst (al ++ [yv]))) F6 (acc ++ [r1]) (al ++ [yv]) (B ++ (B5 ++ [])) := by
            refine repL_append (ra7.mono T (Same.refl _) fun a z o e => ?_) (.cons (rep6.mono T (Same.refl _) fun a z o e => ?_) .nil)
            · rw [upd_ne (fun (q : a = D) => n7.1 (q ▸ z))]; exact e
            · rw [upd_ne (fun (q : a = D) => dj a z (by rw [q]; exact List.mem_cons_self))]; exact e
          rw [List.append_nil] at repn
          have t6' : Tmp W (wipe σ vs) H5 F6 As7 B5 := ⟨t6.nd, t6.g, t6.h, fun b hb i z => t6.a b hb i (sub7 i b z)⟩
          refine ⟨bs.updD hD haD (t7.a D (by simp)) (t7.g D (by simp)), ⟨_, upd_same, repn⟩, ⟨?_, fun b hb => ?_, fun b hb => ?_, fun b hb => ?_⟩, fun b hb => ?_⟩
          · refine List.nodup_cons.mpr ⟨fun z => ?_, List.nodup_append.mpr ⟨n7.2, t6.nd, fun a ha b hb z => dj b hb (List.mem_cons_of_mem _ (z ▸ ha))⟩⟩
            rcases List.mem_append.mp z with z | z
            · exact n7.1 z
            · exact dj D z List.mem_cons_self
          · rcases List.mem_cons.mp hb with rfl | hb
            · exact t7.g _ (by simp)
            · rcases List.mem_append.mp hb with z | z
              · exact t7.g b (List.mem_cons_of_mem _ z)
              · exact t6'.g b z
          · rcases List.mem_cons.mp hb with rfl | hb
            · rw [upd_same]; exact fun z => nomatch z
            · by_cases q : b = D
              · rw [q, upd_same]; exact fun z => nomatch z
              · rw [upd_ne q]
                rcases List.mem_append.mp hb with z | z
                · exact t7.h b (List.mem_cons_of_mem _ z)
                · exact t6'.h b z
          · rcases List.mem_cons.mp hb with rfl | hb
            · exact t7.a _ (by simp)
            · rcases List.mem_append.mp hb with z | z
              · exact t7.a b (List.mem_cons_of_mem _ z)
              · exact t6'.a b z
          · rcases List.mem_append.mp hb with z | z
            · exact bk.o b z
            · have b0 := bk.s.trans st0 fun _ z => nomatch z
              rcases o5 b z with y | ⟨j, y⟩
              · exact .inl (b0.dom b y)
              · rcases b0.an j b y with y | y | y
                · exact .inl y
                · exact .inr y
                · cases y
  · have ei : i = ds1.length := by omega
    subst ei
    refine .inl ⟨it.stop H' L, ?_⟩
    rw [List.drop_length, lcGo] at e3
    cases e3
    cases e
    exact lc_end S p ok1 ok2 g1 hD bk k
end
end Tr

/-! TrUpd: an own list, an own object is changed in place. -/
namespace Tr
open PySem L2
/-- a way into a thing -/
inductive Pst where
  | ix (k : Nat)
  | fd (n : Str)
def fdGet : List (Str × D) → Str → Option D
  | [], _ => none
  | (m, d) :: r, n => if m = n then some d else fdGet r n
def fdPut : List (Str × D) → Str → D → List (Str × D)
  | [], _, _ => []
  | (m, d) :: r, n, e => if m = n then (m, e) :: r else (m, d) :: fdPut r n e
def D.sub : D → List Pst → Option D
  | d, [] => some d
  | .lst xs, .ix k :: p => (xs[k]?).bind fun d => d.sub p
  | .tup xs, .ix k :: p => (xs[k]?).bind fun d => d.sub p
  | .ins _ fs, .fd n :: p => (fdGet fs n).bind fun d => d.sub p
  | _, _ :: _ => none
def D.put : D → List Pst → D → D
  | _, [], e => e
  | .lst xs, .ix k :: p, e => match xs[k]? with
    | some d => .lst (xs.set k (d.put p e))
    | none => .lst xs
  | .tup xs, .ix k :: p, e => match xs[k]? with
    | some d => .tup (xs.set k (d.put p e))
    | none => .tup xs
  | .ins c fs, .fd n :: p, e => match fdGet fs n with
    | some d => .ins c (fdPut fs n (d.put p e))
    | none => .ins c fs
  | d, _ :: _, _ => d
def fvGet : List (Str × V) → Str → Option V
  | [], _ => none
  | (m, d) :: r, n => if m = n then some d else fvGet r n
section
variable {W : Wd} {H H' F : Hp}
/-- the rest of what is held stands still -/
structure Kp (W : Wd) (H H' : Hp) (R : List Addr) : Prop where
  t : ∀ a vs, SqT W.K H a vs → SqT W.K H' a vs
  k : ∀ a ∈ R, ∀ o, H a = some o → H' a = some o
theorem reps_split {m : Mode} : ∀ {ds : List D} {vs : List V} {A : List Addr} {k : Nat} {d : D}, Reps W H F m ds vs A → ds[k]? = some d →
    ∃ v A0 A1 A2, A = A0 ++ (A1 ++ A2) ∧ vs[k]? = some v ∧ Rep W H F m d v A1 ∧
      ∀ H' d' A1', Rep W H' F m d' v A1' → Kp W H H' (A0 ++ A2) → Reps W H' F m (ds.set k d') vs (A0 ++ (A1' ++ A2))
  | _, _, _, _, _, .nil _, e => by simp at e
  | _, _, _, 0, _, .cons (d := d) (A := A) (B := B) h r, e => by
    simp at e
    subst e
    refine ⟨_, [], A, B, rfl, rfl, h, fun H' d' A1' h' kp => ?_⟩
    have w := Reps.cons h' (r.mono kp.t (Same.refl _) fun a z => kp.k a (by simpa using z))
    simpa using w
  | _, _, _, k + 1, _, .cons (d := d) (A := A) (B := B) h r, e => by
    simp at e
    obtain ⟨v, A0, A1, A2, eA, ev, h1, f⟩ := reps_split r e
    refine ⟨v, A ++ A0, A1, A2, by rw [eA]; simp, by simpa using ev, h1, fun H' d' A1' h' kp => ?_⟩
    have q := f H' d' A1' h' ⟨kp.t, fun a z => kp.k a (by simp at z ⊢; rcases z with z | z <;> simp [z])⟩
    have w := Reps.cons (h.mono kp.t (Same.refl _) fun a z => kp.k a (by simp [z])) q
    simpa using w
theorem repf_split {m : Mode} : ∀ {ds : List (Str × D)} {vs : List (Str × V)} {A : List Addr} {n : Str} {d : D}, Repf W H F m ds vs A → fdGet ds n = some d →
    ∃ v A0 A1 A2, A = A0 ++ (A1 ++ A2) ∧ fvGet vs n = some v ∧ Rep W H F m d v A1 ∧
      ∀ H' d' A1', Rep W H' F m d' v A1' → Kp W H H' (A0 ++ A2) → Repf W H' F m (fdPut ds n d') vs (A0 ++ (A1' ++ A2))
  | _, _, _, _, _, .nil _, e => by simp [fdGet] at e
  | _, _, _, n, _, .cons (n := m) (d := d) (A := A) (B := B) h r, e => by
    by_cases hm : m = n
    · simp [fdGet, hm] at e
      subst e
      refine ⟨_, [], A, B, rfl, by simp [fvGet, hm], h, fun H' d' A1' h' kp => ?_⟩
      have w := Repf.cons (n := m) h' (r.mono kp.t (Same.refl _) fun a z => kp.k a (by simpa using z))
      simpa [fdPut, hm] using w
    · simp [fdGet, hm] at e
      obtain ⟨v, A0, A1, A2, eA, ev, h1, f⟩ := repf_split r e
      refine ⟨v, A ++ A0, A1, A2, by rw [eA]; simp, by simpa [fvGet, hm] using ev, h1, fun H' d' A1' h' kp => ?_⟩
      have q := f H' d' A1' h' ⟨kp.t, fun a z => kp.k a (by simp at z ⊢; rcases z with z | z <;> simp [z])⟩
      have w := Repf.cons (n := m) (h.mono kp.t (Same.refl _) fun a z => kp.k a (by simp [z])) q
      simpa [fdPut, hm] using w
theorem sub_app : ∀ (p : List Pst) {d d1 : D} {q : List Pst}, d.sub p = some d1 → d.sub (p ++ q) = d1.sub q
  | [], d, d1, q, h => by simp [D.sub] at h; subst h; rfl
  | .ix k :: p, .lst xs, d1, q, h => by
    simp only [D.sub, List.cons_append] at h ⊢
    cases e : xs[k]? with
    | none => rw [e] at h; cases h
    | some x => rw [e] at h; exact sub_app p h
  | .ix k :: p, .tup xs, d1, q, h => by
    simp only [D.sub, List.cons_append] at h ⊢
    cases e : xs[k]? with
    | none => rw [e] at h; cases h
    | some x => rw [e] at h; exact sub_app p h
  | .fd n :: p, .ins c fs, d1, q, h => by
    simp only [D.sub, List.cons_append] at h ⊢
    cases e : fdGet fs n with
    | none => rw [e] at h; cases h
    | some x => rw [e] at h; exact sub_app p h
theorem put_app : ∀ (p : List Pst) {d d1 e : D} {q : List Pst}, d.sub p = some d1 → d.put (p ++ q) e = d.put p (d1.put q e)
  | [], d, d1, e, q, h => by simp [D.sub] at h; subst h; cases d <;> cases q <;> simp [D.put]
  | .ix k :: p, .lst xs, d1, e, q, h => by
    simp only [D.sub, List.cons_append, D.put] at h ⊢
    cases ek : xs[k]? with
    | none => simp [ek] at h
    | some x => simp only [ek, Option.bind_some] at h; simp only; rw [put_app p h]
  | .ix k :: p, .tup xs, d1, e, q, h => by
    simp only [D.sub, List.cons_append, D.put] at h ⊢
    cases ek : xs[k]? with
    | none => simp [ek] at h
    | some x => simp only [ek, Option.bind_some] at h; simp only; rw [put_app p h]
  | .fd n :: p, .ins c fs, d1, e, q, h => by
    simp only [D.sub, List.cons_append, D.put] at h ⊢
    cases ek : fdGet fs n with
    | none => simp [ek] at h
    | some x => simp only [ek, Option.bind_some] at h; simp only; rw [put_app p h]
/-- what a thing of its own holds at the end of a way, and what it is when that is changed -/
def Foc (W : Wd) (H F : Hp) (A : List Addr) (d : D) (v : V) (p : List Pst) (w : V) (d1 : D) : Prop :=
  ∃ A0 A1 A2, d.sub p = some d1 ∧ A = A0 ++ (A1 ++ A2) ∧ Rep W H F .O d1 w A1 ∧
    ∀ H' d1' A1', Rep W H' F .O d1' w A1' → Kp W H H' (A0 ++ A2) → Rep W H' F .O (d.put p d1') v (A0 ++ (A1' ++ A2))
theorem Foc.base {A : List Addr} {d : D} {v : V} (h : Rep W H F .O d v A) : Foc W H F A d v [] v d :=
  ⟨[], A, [], by simp [D.sub], by simp, h, fun H' d1' A1' h' _ => by cases d <;> simpa [D.put] using h'⟩
theorem Foc.mono {A : List Addr} {d d1 : D} {v w : V} {p : List Pst} (h : Foc W H F A d v p w d1) (hA : ∀ a ∈ A, ∀ o, H a = some o → H' a = some o) (hT : ∀ a vs, SqT W.K H a vs → SqT W.K H' a vs) : Foc W H' F A d v p w d1 := by
  obtain ⟨A0, A1, A2, h1, h2, h3, h4⟩ := h
  subst h2
  exact ⟨A0, A1, A2, h1, rfl, h3.mono hT (Same.refl _) fun a z => hA a (by simp [z]), fun H'' d1' A1' r k => h4 H'' d1' A1' r ⟨fun a vs z => k.t a vs (hT a vs z), fun a z o e => k.k a z o (hA a (by simp at z ⊢; rcases z with z | z <;> simp [z]) o e)⟩⟩
theorem Foc.lst {A : List Addr} {d : D} {v w : V} {p : List Pst} {xs : List D} (h : Foc W H F A d v p w (.lst xs)) :
    ∃ l vs, w = .ref l ∧ H l = some (.lst vs) ∧ vs.length = xs.length ∧ ∀ (j : Nat) (dj : D), xs[j]? = some dj → ∃ u, vs[j]? = some u ∧ Foc W H F A d v (p ++ [.ix j]) u dj := by
  obtain ⟨A0, A1, A2, h1, rfl, h3, h4⟩ := h
  cases h3 with
  | lstO hl r =>
    rename_i a vs B
    refine ⟨a, vs, rfl, hl, r.len.symm, fun j dj ej => ?_⟩
    obtain ⟨u, B0, B1, B2, eB, eu, hu, f⟩ := reps_split r ej
    refine ⟨u, eu, A0 ++ (a :: B0), B1, B2 ++ A2, ?_, by rw [eB]; simp, hu, fun H' d1' A1' r' k => ?_⟩
    · rw [sub_app p h1]; simp [D.sub, ej]
    · have w1 := f H' d1' A1' r' ⟨k.t, fun b z => k.k b (by simp at z ⊢; rcases z with z | z <;> simp [z])⟩
      have w2 := Rep.lstO (k.k a (by simp) _ hl) w1
      have w3 := h4 H' _ _ w2 ⟨k.t, fun b z => k.k b (by simp at z ⊢; rcases z with z | z <;> simp [z])⟩
      rw [put_app p h1]
      simpa [D.put, ej] using w3
theorem Foc.tup {A : List Addr} {d : D} {v w : V} {p : List Pst} {xs : List D} (h : Foc W H F A d v p w (.tup xs)) :
    ∃ l vs, w = .ref l ∧ SqT W.K H l vs ∧ vs.length = xs.length ∧ ∀ (j : Nat) (dj : D), xs[j]? = some dj → ∃ u, vs[j]? = some u ∧ Foc W H F A d v (p ++ [.ix j]) u dj := by
  obtain ⟨A0, A1, A2, h1, rfl, h3, h4⟩ := h
  cases h3 with
  | tup hl r =>
    rename_i a vs
    refine ⟨a, vs, rfl, hl, r.len.symm, fun j dj ej => ?_⟩
    obtain ⟨u, B0, B1, B2, eB, eu, hu, f⟩ := reps_split r ej
    refine ⟨u, eu, A0 ++ B0, B1, B2 ++ A2, ?_, by rw [eB]; simp, hu, fun H' d1' A1' r' k => ?_⟩
    · rw [sub_app p h1]; simp [D.sub, ej]
    · have w1 := f H' d1' A1' r' ⟨k.t, fun b z => k.k b (by simp at z ⊢; rcases z with z | z <;> simp [z])⟩
      have w2 := Rep.tup (k.t _ _ hl) w1
      have w3 := h4 H' _ _ w2 ⟨k.t, fun b z => k.k b (by simp at z ⊢; rcases z with z | z <;> simp [z])⟩
      rw [put_app p h1]
      simpa [D.put, ej] using w3
theorem Foc.ins {A : List Addr} {d : D} {v w : V} {p : List Pst} {c : String} {fs : List (Str × D)} (h : Foc W H F A d v p w (.ins c fs)) :
    ∃ l dx gs, w = .ref l ∧ H l = some (.ins (W.cls c) dx gs) ∧ ∀ (n : Str) (dj : D), fdGet fs n = some dj → ∃ u, fvGet gs n = some u ∧ Foc W H F A d v (p ++ [.fd n]) u dj := by
  obtain ⟨A0, A1, A2, h1, rfl, h3, h4⟩ := h
  cases h3 with
  | insO hl r =>
    rename_i a dx gs B
    refine ⟨a, dx, gs, rfl, hl, fun j dj ej => ?_⟩
    obtain ⟨u, B0, B1, B2, eB, eu, hu, f⟩ := repf_split r ej
    refine ⟨u, eu, A0 ++ (a :: B0), B1, B2 ++ A2, ?_, by rw [eB]; simp, hu, fun H' d1' A1' r' k => ?_⟩
    · rw [sub_app p h1]; simp [D.sub, ej]
    · have w1 := f H' d1' A1' r' ⟨k.t, fun b z => k.k b (by simp at z ⊢; rcases z with z | z <;> simp [z])⟩
      have w2 := Rep.insO (k.k a (by simp) _ hl) w1
      have w3 := h4 H' _ _ w2 ⟨k.t, fun b z => k.k b (by simp at z ⊢; rcases z with z | z <;> simp [z])⟩
      rw [put_app p h1]
      simpa [D.put, ej] using w3
end
section
variable {W : Wd} {ρ ρ' ρ1 ρ2 : Env} {σ σ' σ1 σ2 : L2.St} {H F G H' F' G' H1 F1 G1 H2 F2 : Hp} {As As' As1 As2 : Nat → List Addr} {B : List Addr}
/-- an own slot's thing is changed at l -/
theorem upd_ok {i : Nat} {s : Slot} {v : V} {l : Addr} {o o' : HO} {A' : List Addr} {m' : Mode} {d' : D} (S : Sta W ρ σ H F F As) (n : NoLk ρ) (t : Tmp W σ H F As B)
    (hs : ρ[i]? = some (some s)) (hv : σ[i]? = some (some v)) (hl : l ∈ As i) (ho : H l = some o)
    (rep : Rep W (upd H l o') F m' d' v A') (nd : A'.Nodup) (sub : ∀ a ∈ A', a ∈ As i ∨ a ∈ B) :
    Step W B ρ σ H F As (ρ.set i (some ⟨m', false, d'⟩)) σ (upd H l o') F (fun j => if j = i then A' else As j) := by
  have hi : i < ρ.length := lt_of_get hs
  have hlu : Unl ρ As l := ⟨i, s, hs, n i s hs, hl⟩
  have hFl : F l = none := S.fo i l hl
  have other : ∀ a o, H a = some o → a ≠ l → upd H l o' a = some o := fun a o e q => by rw [upd_ne q]; exact e
  have tups : ∀ a vs, SqT W.K H a vs → SqT W.K (upd H l o') a vs := S.tup fun a o e q => other a o e fun z => q (z ▸ hlu)
  have get : ∀ (j : Nat) (u : Slot), (ρ.set i (some ⟨m', false, d'⟩))[j]? = some (some u) → (j = i ∧ u = ⟨m', false, d'⟩) ∨ (j ≠ i ∧ ρ[j]? = some (some u)) := fun j u h => by
    rw [get_set] at h
    split at h
    · rename_i q
      cases h
      exact .inl ⟨q.1, rfl⟩
    · rename_i q
      by_cases z : j = i
      · exact absurd ⟨z, hi⟩ q
      · exact .inr ⟨z, h⟩
  have sb : ∀ j a, a ∈ (fun j => if j = i then A' else As j) j → (j = i ∧ a ∈ A') ∨ (j ≠ i ∧ a ∈ As j) := fun j a h => by
    by_cases q : j = i
    · simp only [if_pos q] at h; exact .inl ⟨q, h⟩
    · simp only [if_neg q] at h; exact .inr ⟨q, h⟩
  have fo' : ∀ a ∈ A', F a = none := fun a h => (sub a h).elim (S.fo i a) (t.g a)
  have nl : NoLk (ρ.set i (some ⟨m', false, d'⟩)) := fun j u h => by
    rcases get j u h with ⟨_, rfl⟩ | ⟨_, e⟩
    · rfl
    · exact n j u e
  have gh : Same F (upd H l o') := fun a o e => by
    have q := S.gh a o e
    exact other a o q fun z => by rw [z, hFl] at e; cases e
  refine ⟨⟨by rw [List.length_set]; exact S.len, fun j u h => ?_, fun j u h k => ?_, fun j u h k a ha => ?_, fun j h => ?_, fun j => ?_, fun j1 j2 a h1 h2 => ?_, fun j a h => ?_, S.fg, gh⟩, nl, fun a o e q _ => ?_, fun a e => ?_, Same.refl _, fun _ e q => absurd e q, fun j a h => ?_, tups, rfl, fun _ _ => rfl⟩
  · rcases get j u h with ⟨rfl, rfl⟩ | ⟨q, e⟩
    · refine ⟨v, hv, ?_⟩
      simp only [if_pos]
      exact rep
    · obtain ⟨x, hx, r⟩ := S.slot j u e
      refine ⟨x, hx, ?_⟩
      simp only [if_neg q]
      exact r.mono tups (Same.refl _) fun a ha o e => other a o e fun z => q (S.dj j i a ha (z ▸ hl))
  · rw [nl j u h] at k
    cases k
  · rcases sb j a ha with ⟨rfl, q⟩ | ⟨_, q⟩
    · exact fo' a q
    · exact S.fo j a q
  · have q : j ≠ i := fun z => h ⟨m', false, d'⟩ (by rw [z, List.getElem?_set_self hi])
    simp only [if_neg q]
    exact S.none j fun u z => h u (by rw [List.getElem?_set_ne (Ne.symm q)]; exact z)
  · by_cases q : j = i
    · simp only [if_pos q]; exact nd
    · simp only [if_neg q]; exact S.nd j
  · rcases sb j1 a h1 with ⟨e1, q1⟩ | ⟨e1, q1⟩ <;> rcases sb j2 a h2 with ⟨e2, q2⟩ | ⟨e2, q2⟩
    · exact e1.trans e2.symm
    · rcases sub a q1 with z | z
      · exact absurd (S.dj _ _ _ z q2).symm e2
      · exact absurd q2 (t.a a z j2)
    · rcases sub a q2 with z | z
      · exact absurd (S.dj _ _ _ z q1).symm e1
      · exact absurd q1 (t.a a z j1)
    · exact S.dj _ _ _ q1 q2
  · rcases sb j a h with ⟨_, q⟩ | ⟨_, q⟩
    · exact fo' a q
    · exact S.fo j a q
  · exact other a o e fun z => q i (z ▸ hl)
  · by_cases z : a = l
    · rw [z, upd_same] at e; cases e
    · rw [upd_ne z] at e; exact e
  · rcases sb j a h with ⟨_, q⟩ | ⟨_, q⟩
    · rcases sub a q with z | z
      · exact .inr (.inl ⟨i, z⟩)
      · exact .inr (.inr z)
    · exact .inr (.inl ⟨j, q⟩)
end
end Tr

/-! TrApp: append, item stores, pop on an own list. -/
namespace Tr
open PySem L2
def isLst : Option (Option Slot) → Bool
  | some (some ⟨_, _, .lst _⟩) => true
  | _ => false
/-- x.append(e) -/
noncomputable def sApnd (i : Nat) (f : SE) : SS := fun ρ =>
  if isLst ρ[i]? then
    match f ρ with
    | some (r, ρ1) =>
      match (settle ρ r ρ1)[i]? with
      | some (some ⟨m, _, .lst xs⟩) =>
        if ok (xs.length < sizeLine) then
          match m with
          | .O =>
            if r.m = .O then some (.nx ((settle ρ r ρ1).set i (some ⟨.O, false, .lst (xs ++ [r.d])⟩)))
            else if r.m = .F ∧ D.flats xs = true then some (.nx ((settle ρ r ρ1).set i (some ⟨.S, false, .lst (xs ++ [r.d])⟩)))
            else none
          | .S => if r.m = .F ∨ r.d.flat = true then some (.nx ((settle ρ r ρ1).set i (some ⟨.S, false, .lst (xs ++ [r.d])⟩))) else none
          | .F => none
        else none
      | _ => none
    | none => none
  else none
section
variable {W : Wd} {ρ ρ' ρ1 ρ2 : Env} {σ σ' σ1 σ2 : L2.St} {H F G H' F' G' H1 F1 G1 H2 F2 : Hp} {As As' As1 As2 : Nat → List Addr} {B : List Addr}
theorem own_list {i : Nat} {m : Mode} {lk : Bool} {xs : List D} (S : Sta W ρ σ H F G As) (h : ρ[i]? = some (some ⟨m, lk, .lst xs⟩)) (hm : m ≠ .F) :
    ∃ l vs A, σ[i]? = some (some (.ref l)) ∧ H l = some (.lst vs) ∧ As i = l :: A ∧ Reps W H F (kidL m) xs vs A := by
  obtain ⟨v, hv, r⟩ := S.slot i _ h
  generalize hA : As i = A at r
  cases r with
  | lstF => exact absurd rfl hm
  | lstS hl q => exact ⟨_, _, [], hv, hl, rfl, q⟩
  | lstO hl q => exact ⟨_, _, _, hv, hl, rfl, q⟩
theorem any_list {i : Nat} {m : Mode} {lk : Bool} {xs : List D} (S : Sta W ρ σ H F G As) (h : ρ[i]? = some (some ⟨m, lk, .lst xs⟩)) :
    ∃ l vs, σ[i]? = some (some (.ref l)) ∧ H l = some (.lst vs) := by
  obtain ⟨v, hv, r⟩ := S.slot i _ h
  generalize hA : As i = A at r
  cases r with
  | lstF hl _ => exact ⟨_, _, hv, S.gh _ _ (S.fg _ _ hl)⟩
  | lstS hl q => exact ⟨_, _, hv, hl⟩
  | lstO hl q => exact ⟨_, _, hv, hl⟩
theorem isLst_get {i : Nat} (h : isLst ρ[i]? = true) : ∃ m lk xs, ρ[i]? = some (some ⟨m, lk, .lst xs⟩) := by
  unfold isLst at h
  split at h
  · rename_i m lk xs e
    exact ⟨m, lk, xs, e⟩
  · cases h
theorem upd_reps {i : Nat} {l : Addr} {o : HO} {m : Mode} {ds : List D} {vs : List V} {A : List Addr} {s : Slot} (S : Sta W ρ σ H F F As) (n : NoLk ρ) (hs : ρ[i]? = some (some s)) (hl : l ∈ As i) (r : Reps W H F m ds vs A) (hA : l ∉ A) : Reps W (upd H l o) F m ds vs A :=
  r.mono (S.tup fun a o e q => by rw [upd_ne (fun z : a = l => q ⟨i, s, hs, n i s hs, z ▸ hl⟩)]; exact e) (Same.refl _) fun a ha o e => by
    rw [upd_ne (fun z : a = l => hA (z ▸ ha))]
    exact e
/-- an own list's content is changed -/
theorem lst_ok {i : Nat} {m m' : Mode} {lk : Bool} {xs ys : List D} {l : Addr} {vs us : List V} {A C : List Addr} (S : Sta W ρ σ H F F As) (n : NoLk ρ) (t : Tmp W σ H F As B)
    (h : ρ[i]? = some (some ⟨m, lk, .lst xs⟩)) (hv : σ[i]? = some (some (.ref l))) (hl : H l = some (.lst vs)) (hA : As i = l :: A)
    (hm : m' ≠ .F) (rep : Reps W H F (kidL m') ys us C) (hC : m' = .S → C = []) (nd : C.Nodup) (sub : ∀ a ∈ C, a ∈ A ∨ a ∈ B) :
    ∃ As', Step W B ρ σ H F As (ρ.set i (some ⟨m', false, .lst ys⟩)) σ (upd H l (.lst us)) F As' := by
  have li : l ∈ As i := by rw [hA]; exact List.mem_cons_self
  have hlC : l ∉ C := fun z => by
    rcases sub l z with q | q
    · have := S.nd i
      rw [hA] at this
      exact (List.nodup_cons.mp this).1 q
    · exact t.a l q i li
  have r2 := upd_reps (o := .lst us) S n h li rep hlC
  have r3 : Rep W (upd H l (.lst us)) F m' (.lst ys) (.ref l) (l :: C) := by
    cases m' with
    | F => exact absurd rfl hm
    | S =>
      have := hC rfl
      subst this
      exact .lstS upd_same r2
    | O => exact .lstO upd_same r2
  exact ⟨_, upd_ok S n t h hv li hl r3 (List.nodup_cons.mpr ⟨hlC, nd⟩) fun a ha => by
    rcases List.mem_cons.mp ha with rfl | q
    · exact .inl li
    · rcases sub a q with z | z
      · exact .inl (by rw [hA]; exact List.mem_cons_of_mem _ z)
      · exact .inr z⟩
theorem sim_apnd {i : Nat} {te : TE} {f : SE} (hf : SimE W te f) : SimS W (tDrop (tBM W.K "list" rAppend (tVar i) (tCons te tNil))) (sApnd i f) := by
  intro ρ σ H F As D out S n e k
  unfold sApnd at e
  split at e
  case isFalse => cases e
  rename_i hi
  obtain ⟨m0, lk0, xs0, e0⟩ := isLst_get hi
  obtain ⟨l0, vs0, hv0, hl0⟩ := any_list S e0
  split at e
  case h_2 => cases e
  rename_i r ρ1 e1
  refine ⟨_, hv0, .inl ⟨rfl, _, SqL.of hl0⟩, ?_⟩
  refine hf ρ σ H F F As _ _ _ S e1 fun v H1 G1 As1 B p rep t org => ?_
  obtain ⟨F2, As2, q, rep2, t2⟩ := settle_ok S n p rep t org
  split at e
  case h_2 => cases e
  rename_i m lk xs e2
  split at e
  case isFalse => cases e
  rename_i hlen
  have go : ∀ (m' : Mode) (C : List Addr), m ≠ .F → m' ≠ .F → out = .nx ((settle ρ r ρ1).set i (some ⟨m', false, .lst (xs ++ [r.d])⟩)) →
      (∀ l vs A, As2 i = l :: A → Reps W H1 F2 (kidL m) xs vs A → ∃ C, Reps W H1 F2 (kidL m') (xs ++ [r.d]) (vs ++ [v]) C ∧ (m' = .S → C = []) ∧ C.Nodup ∧ ∀ a ∈ C, a ∈ A ∨ a ∈ B) →
      tNil σ H1 fun xs H2 => rAppend (.ref l0) (v :: xs) H2 fun _ H1 => D.nx σ H1 := fun m' _ hm hm' ho hr => by
    obtain ⟨l, vs, A, hv, hl, hA, rs⟩ := own_list q.st e2 hm
    rw [hv0] at hv
    cases hv
    obtain ⟨C, r1, r2, r3, r4⟩ := hr l0 vs A hA rs
    obtain ⟨As3, q3⟩ := lst_ok q.st q.nl t2 e2 hv0 hl hA hm' r1 r2 r3 r4
    subst ho
    exact ⟨l0, vs, v, rfl, rfl, hl, by rw [← rs.len]; exact of_ok hlen, k _ _ _ _ (q.trans q3 org)⟩
  cases m with
  | F => cases e
  | O =>
    simp only at e
    split at e
    · rename_i hr
      cases e
      have rep3 : Rep W H1 F2 .O r.d v B := by rw [hr] at rep2; exact rep2
      refine go .O [] (by simp) (by simp) rfl fun l vs A hA rs => ⟨A ++ (B ++ []), reps_append (m := .O) rs (.cons rep3 (.nil _)), (fun z => by cases z), ?_, ?_⟩
      · rw [List.append_nil]
        refine List.nodup_append.mpr ⟨?_, t2.nd, fun a ha b hb z => ?_⟩
        · have := q.st.nd i
          rw [hA] at this
          exact (List.nodup_cons.mp this).2
        · exact t2.a b hb i (by rw [hA, ← z]; exact List.mem_cons_of_mem _ ha)
      · intro a ha
        simpa using ha
    · split at e
      case isFalse => cases e
      rename_i _ hr
      cases e
      refine go .S [] (by simp) (by simp) rfl fun l vs A hA rs => ⟨[], ?_, fun _ => rfl, List.nodup_nil, fun _ z => nomatch z⟩
      have r0 := (rs.flat hr.2).2 .F F2
      have r1 : Rep W H1 F2 .F r.d v [] := by
        have := rep2.Fnil hr.1
        rw [hr.1, this] at rep2
        exact rep2
      exact reps_append (A := []) (B := []) r0 (.cons (A := []) (B := []) r1 (.nil _))
  | S =>
    simp only at e
    split at e
    case isFalse => cases e
    rename_i hr
    cases e
    refine go .S [] (by simp) (by simp) rfl fun l vs A hA rs => ⟨[], ?_, fun _ => rfl, List.nodup_nil, fun _ z => nomatch z⟩
    have hA0 := rs.Fnil rfl
    subst hA0
    have r1 : Rep W H1 F2 .F r.d v [] := by
      rcases hr with hr | hr
      · have := rep2.Fnil hr
        rw [hr, this] at rep2
        exact rep2
      · exact (rep2.flat hr).2 .F F2
    exact reps_append (A := []) (B := []) rs (.cons (A := []) (B := []) r1 (.nil _))
theorem reps_set {m : Mode} {d : D} {v : V} {H F : Hp} (hr : Rep W H F m d v B) (nB : B.Nodup) : ∀ {ds : List D} {vs : List V} {A : List Addr} {k : Nat}, Reps W H F m ds vs A → k < ds.length → A.Nodup → (∀ a ∈ A, a ∉ B) →
    ∃ A', Reps W H F m (ds.set k d) (vs.set k v) A' ∧ A'.Nodup ∧ ∀ a ∈ A', a ∈ A ∨ a ∈ B
  | _, _, _, _, .nil _, h, _, _ => by simp at h
  | _, _, _, 0, .cons (A := A0) (B := B0) h r, _, nd, dj => by
    have nd2 := List.nodup_append.mp nd
    exact ⟨B ++ B0, .cons hr r, List.nodup_append.mpr ⟨nB, nd2.2.1, fun a ha b hb z => dj b (List.mem_append_right _ hb) (z ▸ ha)⟩, fun a ha => by
      rcases List.mem_append.mp ha with z | z
      · exact .inr z
      · exact .inl (List.mem_append_right _ z)⟩
  | _, _, _, k + 1, .cons (A := A0) (B := B0) h r, hk, nd, dj => by
    have nd2 := List.nodup_append.mp nd
    obtain ⟨A', r1, n1, s1⟩ := reps_set hr nB (k := k) r (by simpa using hk) nd2.2.1 fun a ha => dj a (List.mem_append_right _ ha)
    refine ⟨A0 ++ A', .cons h r1, List.nodup_append.mpr ⟨nd2.1, n1, fun a ha b hb z => ?_⟩, fun a ha => ?_⟩
    · rcases s1 b hb with q | q
      · exact nd2.2.2 a ha b q z
      · exact dj a (List.mem_append_left _ ha) (z ▸ q)
    · rcases List.mem_append.mp ha with z | z
      · exact .inl (List.mem_append_left _ z)
      · rcases s1 a z with q | q
        · exact .inl (List.mem_append_right _ q)
        · exact .inr q
theorem Step.transB (p : Step W [] ρ σ H F As ρ1 σ1 H1 F1 As1) (q : Step W B ρ1 σ1 H1 F1 As1 ρ2 σ2 H2 F2 As2) : Step W B ρ σ H F As ρ2 σ2 H2 F2 As2 where
  st := q.st
  nl := q.nl
  keep := fun a o e n nb => q.keep a o (p.keep a o e n fun z => nomatch z) (fun i z => by
    rcases p.an i a z with y | ⟨j, y⟩ | y
    · rw [e] at y; cases y
    · exact n j y
    · cases y) nb
  dom := fun a e => p.dom a (q.dom a e)
  ff := p.ff.trans q.ff
  fn := fun a e n => by
    cases z : F1 a with
    | some o =>
      rcases p.fn a e (by rw [z]; exact fun q => nomatch q) with y | y | y
      · exact .inl y
      · exact .inr (.inl y)
      · cases y
    | none =>
      rcases q.fn a z n with y | ⟨i, y⟩ | y
      · exact .inl (p.dom a y)
      · rcases p.an i a y with y | y | y
        · exact .inl y
        · exact .inr (.inl y)
        · cases y
      · exact .inr (.inr y)
  an := fun i a h => by
    rcases q.an i a h with y | ⟨j, y⟩ | y
    · exact .inl (p.dom a y)
    · rcases p.an j a y with y | y | y
      · exact .inl y
      · exact .inr (.inl y)
      · cases y
    · exact .inr (.inr y)
  tp := fun a vs h => q.tp a vs (p.tp a vs h)
  ln := q.ln.trans p.ln
  pn := fun i h => (q.pn i h).trans (p.pn i h)
/-- a list's item is changed -/
def putAt (r : Val) (ρ : Env) (i : Nat) (k : Int) : Option Env :=
  match ρ[i]? with
  | some (some ⟨m, _, .lst xs⟩) =>
    match ixN xs.length k with
    | some j =>
      match m with
      | .O =>
        if r.m = .O then some (ρ.set i (some ⟨.O, false, .lst (xs.set j r.d)⟩))
        else if r.m = .F ∧ D.flats xs = true then some (ρ.set i (some ⟨.S, false, .lst (xs.set j r.d)⟩))
        else none
      | .S => if r.m = .F ∨ r.d.flat = true then some (ρ.set i (some ⟨.S, false, .lst (xs.set j r.d)⟩)) else none
      | .F => none
    | none => none
  | _ => none
theorem putAt_ok {r : Val} {v : V} {i : Nat} {k : Int} (S : Sta W ρ σ H F F As) (n : NoLk ρ) (rep : Rep W H F r.m r.d v B) (t : Tmp W σ H F As B) (e : putAt r ρ i k = some ρ') :
    ∃ l vs j, σ[i]? = some (some (.ref l)) ∧ H l = some (.lst vs) ∧ ixN vs.length k = some j ∧ ∃ As', Step W B ρ σ H F As ρ' σ (upd H l (.lst (vs.set j v))) F As' := by
  unfold putAt at e
  split at e
  case h_2 => cases e
  rename_i m lk xs e2
  split at e
  case h_2 => cases e
  rename_i j ej
  have hj : j < xs.length := (ixN_seq ej).2.1
  have go : ∀ m', m ≠ .F → m' ≠ .F → ρ' = ρ.set i (some ⟨m', false, .lst (xs.set j r.d)⟩) →
      (∀ l vs A, As i = l :: A → Reps W H F (kidL m) xs vs A → ∃ C, Reps W H F (kidL m') (xs.set j r.d) (vs.set j v) C ∧ (m' = .S → C = []) ∧ C.Nodup ∧ ∀ a ∈ C, a ∈ A ∨ a ∈ B) →
      ∃ l vs j, σ[i]? = some (some (.ref l)) ∧ H l = some (.lst vs) ∧ ixN vs.length k = some j ∧ ∃ As', Step W B ρ σ H F As ρ' σ (upd H l (.lst (vs.set j v))) F As' := fun m' hm hm' ho hr => by
    obtain ⟨l, vs, A, hv, hl, hA, rs⟩ := own_list S e2 hm
    obtain ⟨C, r1, r2, r3, r4⟩ := hr l vs A hA rs
    obtain ⟨As3, q3⟩ := lst_ok S n t e2 hv hl hA hm' r1 r2 r3 r4
    subst ho
    exact ⟨l, vs, j, hv, hl, by rw [← rs.len]; exact ej, As3, q3⟩
  cases m with
  | F => cases e
  | O =>
    simp only at e
    split at e
    · rename_i hr
      cases e
      have rep3 : Rep W H F .O r.d v B := by rw [hr] at rep; exact rep
      refine go .O (by simp) (by simp) rfl fun l vs A hA rs => ?_
      have ndA : (l :: A).Nodup := by rw [← hA]; exact S.nd i
      obtain ⟨C, c1, c2, c3⟩ := reps_set rep3 t.nd (k := j) rs hj (List.nodup_cons.mp ndA).2 fun a ha hb => t.a a hb i (by rw [hA]; exact List.mem_cons_of_mem _ ha)
      exact ⟨C, c1, (fun z => by cases z), c2, c3⟩
    · split at e
      case isFalse => cases e
      rename_i _ hr
      cases e
      refine go .S (by simp) (by simp) rfl fun l vs A hA rs => ?_
      have r0 := (rs.flat hr.2).2 .F F
      have r1 : Rep W H F .F r.d v [] := by
        have := rep.Fnil hr.1
        rw [hr.1, this] at rep
        exact rep
      obtain ⟨C, c1, c2, c3⟩ := reps_set r1 List.nodup_nil (k := j) r0 hj List.nodup_nil fun a ha => nomatch ha
      have := c1.Fnil rfl
      subst this
      exact ⟨[], c1, fun _ => rfl, List.nodup_nil, fun _ z => nomatch z⟩
  | S =>
    simp only at e
    split at e
    case isFalse => cases e
    rename_i hr
    cases e
    refine go .S (by simp) (by simp) rfl fun l vs A hA rs => ?_
    have hA0 := rs.Fnil rfl
    subst hA0
    have r1 : Rep W H F .F r.d v [] := by
      rcases hr with hr | hr
      · have := rep.Fnil hr
        rw [hr, this] at rep
        exact rep
      · exact (rep.flat hr).2 .F F
    obtain ⟨C, c1, c2, c3⟩ := reps_set r1 List.nodup_nil (k := j) rs hj List.nodup_nil fun a ha => nomatch ha
    have := c1.Fnil rfl
    subst this
    exact ⟨[], c1, fun _ => rfl, List.nodup_nil, fun _ z => nomatch z⟩
/-- x[k] as a target -/
def sGSub (i : Nat) (g : SE) : STg := fun r ρ =>
  if isLst ρ[i]? then
    match g ρ with
    | some (⟨_, .int k⟩, ρ1) => putAt r (restore ρ ρ1) i k
    | _ => none
  else none
theorem sim_gsub {i : Nat} {ti : TE} {g : SE} {ws : List Nat} (hg : SimE W ti g) : SimG W ws (gSub (tVar i) ti rSetL) (sGSub i g) := by
  intro ρ σ H F As r v B ρ' Q S n rep t e k
  unfold sGSub at e
  split at e
  case isFalse => cases e
  rename_i hi
  obtain ⟨m0, lk0, xs0, e0⟩ := isLst_get hi
  obtain ⟨l0, vs0, hv0, hl0⟩ := any_list S e0
  split at e
  case h_2 => cases e
  rename_i mk kk ρ1 e1
  refine ⟨_, hv0, ?_⟩
  refine hg ρ σ H F F As _ _ _ S e1 fun x H1 G1 As1 B1 p rx tx org => ?_
  have ex : x = .int kk := by cases rx; rfl
  subst ex
  have p2 := p.restore S
  have q := test_step (b := true) S n p2 (restore_nolk S n p)
  obtain ⟨t2, kb⟩ := p2.tmp S t
  have rep2 : Rep W H1 F r.m r.d v B := rep.mono q.tp (Same.refl _) kb
  obtain ⟨l, vs, j, hv, hl, hj, As2, q2⟩ := putAt_ok q.st q.nl rep2 t2 e
  rw [hv0] at hv
  cases hv
  exact ⟨l0, vs, kk, j, rfl, rfl, hl, hj, k _ _ _ _ (q.transB q2) fun _ _ => rfl⟩
/-- x[k] op= e, of ints -/
def sAugS (i : Nat) (op : Int → Int → Int) (g f : SE) : SS := fun ρ =>
  if isLst ρ[i]? then
    match g ρ with
    | some (⟨_, .int k⟩, ρ1) =>
      match (restore ρ ρ1)[i]? with
      | some (some ⟨_, _, .lst xs⟩) =>
        match atI xs k with
        | some (.int old) =>
          match f (restore ρ ρ1) with
          | some (⟨_, .int y⟩, ρ2) =>
            match putAt ⟨.O, .int (op old y)⟩ (restore (restore ρ ρ1) ρ2) i k with
            | some ρ3 => some (.nx ρ3)
            | none => none
          | _ => none
        | _ => none
      | _ => none
    | _ => none
  else none
theorem reps_atI {m : Mode} {a : Int} {H F : Hp} : ∀ {ds : List D} {vs : List V} {A : List Addr} {k : Nat}, Reps W H F m ds vs A → ds[k]? = some (.int a) → vs[k]? = some (.int a)
  | _, _, _, _, .nil _, e => by simp at e
  | _, _, _, 0, .cons h r, e => by
    simp at e
    subst e
    cases h
    simp
  | _, _, _, k + 1, .cons h r, e => by
    simp at e
    simpa using reps_atI r e
theorem any_listR {i : Nat} {m : Mode} {lk : Bool} {xs : List D} (S : Sta W ρ σ H F G As) (h : ρ[i]? = some (some ⟨m, lk, .lst xs⟩)) :
    ∃ l vs A m' F', σ[i]? = some (some (.ref l)) ∧ H l = some (.lst vs) ∧ Reps W H F' m' xs vs A := by
  obtain ⟨v, hv, r⟩ := S.slot i _ h
  generalize hA : As i = A at r
  cases r with
  | lstF hl q => exact ⟨_, _, _, _, _, hv, S.gh _ _ (S.fg _ _ hl), q⟩
  | lstS hl q => exact ⟨_, _, _, _, _, hv, hl, q⟩
  | lstO hl q => exact ⟨_, _, _, _, _, hv, hl, q⟩
theorem sim_augS {i : Nat} {op : Int → Int → Int} {ti te : TE} {g f : SE} (hg : SimE W ti g) (hf : SimE W te f) : SimS W (tAugS (tVar i) ti te (rIxL W.K) (ipI op) rSetL) (sAugS i op g f) := by
  intro ρ σ H F As D out S n e k
  unfold sAugS at e
  split at e
  case isFalse => cases e
  rename_i hi
  obtain ⟨m0, lk0, xs0, e0⟩ := isLst_get hi
  obtain ⟨l0, vs0, hv0, hl0⟩ := any_list S e0
  split at e
  case h_2 => cases e
  rename_i mk kk ρ1 e1
  split at e
  case h_2 => cases e
  rename_i m1 lk1 xs1 e2
  split at e
  case h_2 => cases e
  rename_i old e3
  split at e
  case h_2 => cases e
  rename_i my y ρ2 e4
  split at e
  case h_2 => cases e
  rename_i ρ3 e5
  cases e
  refine ⟨_, hv0, ?_⟩
  refine hg ρ σ H F F As _ _ _ S e1 fun x H1 G1 As1 B1 p rx tx org => ?_
  have ex : x = .int kk := by cases rx; rfl
  subst ex
  have q := test_step (b := true) S n (p.restore S) (restore_nolk S n p)
  obtain ⟨l1, vs1, A1, m', F', hv1, hl1, rs1⟩ := any_listR q.st e2
  rw [hv0] at hv1
  cases hv1
  have hat : atI vs1 kk = some (.int old) := by
    unfold atI at e3 ⊢
    cases ej : ixN xs1.length kk with
    | none => rw [ej] at e3; cases e3
    | some j =>
      rw [ej] at e3
      rw [← rs1.len, ej]
      exact reps_atI rs1 e3
  refine ⟨l0, vs1, kk, .int old, rfl, rfl, SqL.of hl1, hat, ?_⟩
  refine hf _ σ H1 F F As1 _ _ _ q.st e4 fun z H2 G2 As2 B2 p2 rz tz org2 => ?_
  have ez : z = .int y := by cases rz; rfl
  subst ez
  have q2 := test_step (b := true) q.st q.nl (p2.restore q.st) (restore_nolk q.st q.nl p2)
  refine ⟨old, y, rfl, rfl, ?_⟩
  obtain ⟨l, vs, j, hv, hl, hj, As3, q3⟩ := putAt_ok (r := ⟨.O, .int (op old y)⟩) (v := .int (op old y)) (B := []) q2.st q2.nl (.int _ _) tmp_nil e5
  rw [hv0] at hv
  cases hv
  exact ⟨l0, vs, kk, j, rfl, rfl, hl, hj, k _ _ _ _ ((q.transB q2).transB q3)⟩
theorem pget_list {X : Cx} : PGet X (rIxL X.K) := by
  intro pins s σ H o i ov iv Q I ro ri h
  obtain ⟨p, xs, j0, z, rfl, rfl, hq, he, q⟩ := h
  cases ro
  obtain ⟨t, rfl⟩ := ri
  obtain ⟨its, r, pl, hz⟩ := I.list hq
  obtain ⟨j, h1, h2, h3, h4, h5⟩ := atI_get he
  obtain ⟨w, ew, rw'⟩ := r.get h2
  have hl := r.length
  have hn := line63
  have fin : EP X pins σ Q w s := ⟨z, H, I, rw', q⟩
  by_cases h0 : 0 ≤ j0
  · have hj : j0.toNat = j := by
      rw [seqIndex_of h0 h5] at h1
      exact Option.some.inj h1
    exact PySem.wpAny_getItem_list pl.isList h0 (by omega) (by rw [hj]; simpa using ew) fin
  · have hj : (j0 + (its.toArray.size : Int)).toNat = j := by
      rw [seqIndex_neg (by omega) h4] at h1
      rw [List.size_toArray, ← hl]
      exact Option.some.inj h1
    exact PySem.wpAny_getItem_list_neg pl.isList (by omega) (by rw [List.size_toArray]; omega) (by omega) (by rw [hj]; simpa using ew) fin
end
end Tr

/-! TrEv: a piece of syntax and its tree meaning. -/
namespace Tr
open PySem L2 RZ
abbrev Cl := String → Addr
abbrev EvE (W : Wd) (X : Cx) (e : Expr) (f : SE) (t : TE) : Prop := PE X e t ∧ SimE W t f
abbrev EvT (W : Wd) (X : Cx) (e : Expr) (f : SB) (t : TT) : Prop := PT X e t ∧ SimT W t f
abbrev EvW (W : Wd) (X : Cx) (e : Expr) (f : SB) (t : TT) : Prop := PW X e t ∧ SimT W t f
abbrev EvA (W : Wd) (X : Cx) (es : List Expr) (f : SA) (t : TA) : Prop := PA X es t ∧ SimA W t f
abbrev EvS (W : Wd) (X : Cx) (st : Stmt) (f : SS) (t : TS) : Prop := PS X st t ∧ SimS W t f
abbrev EvB (W : Wd) (X : Cx) (st : List Stmt) (f : SS) (t : TS) : Prop := PSs X st t ∧ SimS W t f
abbrev EvG (W : Wd) (X : Cx) (ws : List Nat) (e : Expr) (f : STg) (t : TG) : Prop := PG X e t ∧ SimG W ws t f
abbrev EvGs (W : Wd) (X : Cx) (ws : List Nat) (es : List Expr) (n : Nat) (f : List D → Mode → Env → Option Env) (t : TGs) : Prop := (PGs X es t ∧ SimGs W ws t f) ∧ ∀ ds m ρ ρ', f ds m ρ = some ρ' → ds.length = n
abbrev EvI (W : Wd) (X : Cx) (tg e : Expr) (f : SI) (t : TI) : Prop := PI X tg e t ∧ SimI W t f
abbrev EvO (W : Wd) (X : Cx) (e : Option Expr) (f : Env → Option (Option Int × Env)) (t : TO) : Prop := PO X e t ∧ SimO W t f
section
variable {W : Wd} {X : Cx} {e a b : Expr} {es : List Expr} {pos p : Pos} {f g h : SE} {fs : SA} {s u : SB} {x : Str} {ta tb tc : TE} {tp tq : TT} {tA : TA} {tw : TI} {tl tr : TO} {tS tU : TS} {tg0 : TG} {tgs : TGs}
/-! ### expressions -/
theorem ev_var (i : Nat) {x : Str} {pos : Pos} (hN : X.N[i]? = some x := by rfl) (hv : Vis X.env.scope x := by first | exact Or.inl rfl | exact Or.inr (Or.inl rfl) | exact Or.inr (Or.inr rfl)) (hd : (x == ("__debug__" : Str)) = false := by decide)
    (hcd : (x == ("__classdict__" : Str)) = false := by decide) : EvE W X (.Name x pos) (sVar i) (tVar i) := ⟨pe_var hN hv hd hcd, sim_var i⟩
theorem ev_move (i : Nat) {x : Str} {pos : Pos} (hN : X.N[i]? = some x := by rfl) (hv : Vis X.env.scope x := by first | exact Or.inl rfl | exact Or.inr (Or.inl rfl) | exact Or.inr (Or.inr rfl)) (hd : (x == ("__debug__" : Str)) = false := by decide)
    (hcd : (x == ("__classdict__" : Str)) = false := by decide) : EvE W X (.Name x pos) (sMove i) (tVar i) := ⟨pe_var hN hv hd hcd, sim_move i⟩
theorem ev_int {i : Int} {j pos} : EvE W X (.Constant (.int i) j pos) (sCon (.int i)) (tC (.int i)) := ⟨pe_int, sim_con fun _ _ => .int _ _⟩
theorem ev_bl {i : Bool} {j pos} : EvE W X (.Constant (.bool i) j pos) (sCon (.bl i)) (tC (.bl i)) := ⟨pe_bl, sim_con fun _ _ => .bl _ _⟩
theorem ev_str {i : Str} {j pos} : EvE W X (.Constant (.str i) j pos) (sCon (.str i)) (tC (.str i)) := ⟨pe_str, sim_con fun _ _ => .str _ _⟩
theorem ev_non {j pos} : EvE W X (.Constant .none j pos) (sCon .non) (tC .non) := ⟨pe_non, sim_con fun _ _ => .non _⟩
theorem ev_ty {x : Str} {n : String} {pos : Pos} (hg : Gl X x) (hm : X.mg x = none) (hv : bootBuiltins x = some (.type n)) (hn : x ≠ "__name__" := by decide) (hd : (x == ("__debug__" : Str)) = false := by decide) : EvE W X (.Name x pos) (sCon (.ty n)) (tC (.ty n)) :=
  ⟨pe_bltn (v := .ty n) hg hm hv rfl hn hd, sim_con fun _ _ => .ty _ _⟩
/-- a constant of the module -/
theorem ev_glob {x : Str} {v : V} {w : Value} {d : D} {pos : Pos} (hg : Gl X x) (hm : X.mg x = some w) (r : RelV v w) (hd : ∀ H G, Rep W H G .O d v []) (hdb : (x == ("__debug__" : Str)) = false := by decide) : EvE W X (.Name x pos) (sCon d) (tC v) :=
  ⟨pe_glob hg hm r hdb, sim_con hd⟩
theorem ev_globI {x : Str} {i : Int} {k : Tok} {pos : Pos} (hg : Gl X x) (hm : X.mg x = some (.int i k)) (hdb : (x == ("__debug__" : Str)) = false := by decide) : EvE W X (.Name x pos) (sCon (.int i)) (tC (.int i)) :=
  ev_glob hg hm ⟨k, rfl⟩ (fun _ _ => .int _ _) hdb
theorem reps_intsC {H G : Hp} {m : Mode} : ∀ ns : List Int, Reps W H G m (ns.map D.int) (ns.map V.int) []
  | [] => .nil _
  | _ :: ns => .cons (A := []) (B := []) (.int _ _) (reps_intsC ns)
theorem ev_globT {x : Str} {p : Addr} {ns : List Int} {pos : Pos} (hg : Gl X x) (hm : X.mg x = some (.ref p)) (hs : ∀ H, SqT W.K H p (ns.map V.int)) (hdb : (x == ("__debug__" : Str)) = false := by decide) : EvE W X (.Name x pos) (sCon (.tup (ns.map D.int))) (tC (.ref p)) :=
  ev_glob (v := .ref p) hg hm rfl (fun H _ => .tup (hs H) (reps_intsC ns)) hdb
theorem ev_op {op : Operator} {r : R2} {o : List Val → Option Val} (ho : OpR X (binaryOp op) r) (hs : VOp W (rr2 r) o) (ha : EvE W X a f ta) (hb : EvE W X b g tb) : EvE W X (.BinOp a op b pos) (sApp2 o f g) (tOp r ta tb) :=
  let ⟨pa, sa⟩ := ha
  let ⟨pb, sb⟩ := hb
  ⟨pe_op ho pa pb, sim_app2 sa sb hs⟩
theorem ev_add (ha : EvE W X a f ta) (hb : EvE W X b g tb) : EvE W X (.BinOp a .Add b pos) (sApp2 opAdd f g) (tOp rAdd3 ta tb) := ev_op op_add3 vop_add ha hb
theorem ev_sub (ha : EvE W X a f ta) (hb : EvE W X b g tb) : EvE W X (.BinOp a .Sub b pos) (sApp2 opSub f g) (tOp (rI0 fun i j => .int (i - j)) ta tb) := ev_op op_sub vop_sub ha hb
theorem ev_mul (ha : EvE W X a f ta) (hb : EvE W X b g tb) : EvE W X (.BinOp a .Mult b pos) (sApp2 opMul f g) (tOp rMul3 ta tb) := ev_op op_mul3 vop_mul ha hb
theorem ev_mod (ha : EvE W X a f ta) (hb : EvE W X b g tb) : EvE W X (.BinOp a .Mod b pos) (sApp2 opMod f g) (tOp (rI (fun _ j => j ≠ 0) fun i j => .int (i.fmod j)) ta tb) := ev_op op_modN vop_mod ha hb
theorem ev_div (ha : EvE W X a f ta) (hb : EvE W X b g tb) : EvE W X (.BinOp a .FloorDiv b pos) (sApp2 opDiv f g) (tOp (rI CDivZ fun i j => .int (i.fdiv j)) ta tb) := ev_op op_fdivZ vop_div ha hb
theorem ev_pow (ha : EvE W X a f ta) (hb : EvE W X b g tb) : EvE W X (.BinOp a .Pow b pos) (sApp2 opPow f g) (tOp (rI CPow fun i j => .int (i ^ j.toNat)) ta tb) := ev_op op_pow vop_pow ha hb
theorem ev_neg (ha : EvE W X a f ta) : EvE W X (.UnaryOp .USub a pos) (sApp1 opNeg f) (tUn (rU fun i => .int (-i)) ta) :=
  let ⟨pa, sa⟩ := ha
  ⟨pe_un un_neg pa, sim_app1 sa vop_neg⟩
theorem ev_cmp {op : CmpOp} {r : R2} {o : List Val → Option Val} (ho : OpR X (compareOp op) r) (hs : VOp W (rr2 r) o) (ha : EvE W X a f ta) (hb : EvE W X b g tb) (hm : behindInMarks op b = false) : EvE W X (.Compare a [op] [b] pos) (sApp2 o f g) (tOp r ta tb) :=
  let ⟨pa, sa⟩ := ha
  let ⟨pb, sb⟩ := hb
  ⟨pe_cmpR ho pa pb hm, sim_app2 sa sb hs⟩
theorem et_cmp {op : CmpOp} {r : R2} {o : List Val → Option Val} (ho : OpR X (compareOp op) r) (hs : VOp W (rr2 r) o) (ha : EvE W X a f ta) (hb : EvE W X b g tb) (hm : behindInMarks op b = false) : EvT W X (.Compare a [op] [b] pos) (sTest (sApp2 o f g)) (tTest (tOp r ta tb)) :=
  let ⟨pa, sa⟩ := ha
  let ⟨pb, sb⟩ := hb
  ⟨pt_cmpR ho pa pb hm, sim_test (sim_app2 sa sb hs)⟩
theorem ev_lt (ha : EvE W X a f ta) (hb : EvE W X b g tb) : EvE W X (.Compare a [.Lt] [b] pos) (sApp2 opLt f g) (tOp (rI0 fun i j => .bl (decide (i < j))) ta tb) := ev_cmp op_lt vop_lt ha hb (nomark _)
theorem ev_le (ha : EvE W X a f ta) (hb : EvE W X b g tb) : EvE W X (.Compare a [.LtE] [b] pos) (sApp2 opLe f g) (tOp (rI0 fun i j => .bl (decide (i ≤ j))) ta tb) := ev_cmp op_le vop_le ha hb (nomark _)
theorem ev_gt (ha : EvE W X a f ta) (hb : EvE W X b g tb) : EvE W X (.Compare a [.Gt] [b] pos) (sApp2 opGt f g) (tOp (rI0 fun i j => .bl (decide (j < i))) ta tb) := ev_cmp op_gt vop_gt ha hb (nomark _)
theorem ev_ge (ha : EvE W X a f ta) (hb : EvE W X b g tb) : EvE W X (.Compare a [.GtE] [b] pos) (sApp2 opGe f g) (tOp (rI0 fun i j => .bl (decide (j ≤ i))) ta tb) := ev_cmp op_ge vop_ge ha hb (nomark _)
theorem ev_eq (hu : X.A.units + 64 < cLine) (ha : EvE W X a f ta) (hb : EvE W X b g tb) (hK : X.K = W.K := by rfl) : EvE W X (.Compare a [.Eq] [b] pos) (sApp2 opEq f g) (tOp (rEqD W.K) ta tb) := ev_cmp (hK ▸ op_eqD hu) vop_eq ha hb (nomark _)
theorem ev_ne (hu : X.A.units + 64 < cLine) (ha : EvE W X a f ta) (hb : EvE W X b g tb) (hK : X.K = W.K := by rfl) : EvE W X (.Compare a [.NotEq] [b] pos) (sApp2 opNe f g) (tOp (rNeD W.K) ta tb) := ev_cmp (hK ▸ op_neD hu) vop_ne ha hb (nomark _)
theorem ev_isN (ha : EvE W X a f ta) (hb : EvE W X b g tb) : EvE W X (.Compare a [.Is] [b] pos) (sApp2 opIsN f g) (tOp rIsN ta tb) := ev_cmp op_isN vop_isN ha hb (nomark _)
theorem ev_notN (ha : EvE W X a f ta) (hb : EvE W X b g tb) : EvE W X (.Compare a [.IsNot] [b] pos) (sApp2 opNotN f g) (tOp rNotN ta tb) := ev_cmp op_notN vop_notN ha hb (nomark _)
theorem ev_isB (ha : EvE W X a f ta) (hb : EvE W X b g tb) : EvE W X (.Compare a [.Is] [b] pos) (sApp2 opIsB f g) (tOp rIsB ta tb) := ev_cmp op_isBl vop_isB ha hb (nomark _)
theorem ev_notB (ha : EvE W X a f ta) (hb : EvE W X b g tb) : EvE W X (.Compare a [.IsNot] [b] pos) (sApp2 opNotB f g) (tOp rNotB ta tb) := ev_cmp op_notBl vop_notB ha hb (nomark _)
theorem ev_in (ha : EvE W X a f ta) (hb : EvE W X b g tb) (hm : behindInMarks .In b = false := by rfl) (hK : X.K = W.K := by rfl) : EvE W X (.Compare a [.In] [b] pos) (sApp2 (opIn false) f g) (tOp (rIn W.K false) ta tb) := ev_cmp (hK ▸ op_in_seq) (vop_in false) ha hb hm
theorem ev_notIn (ha : EvE W X a f ta) (hb : EvE W X b g tb) (hm : behindInMarks .NotIn b = false := by rfl) (hK : X.K = W.K := by rfl) : EvE W X (.Compare a [.NotIn] [b] pos) (sApp2 (opIn true) f g) (tOp (rIn W.K true) ta tb) := ev_cmp (hK ▸ op_notIn_seq) (vop_in true) ha hb hm
theorem et_lt (ha : EvE W X a f ta) (hb : EvE W X b g tb) : EvT W X (.Compare a [.Lt] [b] pos) (sTest (sApp2 opLt f g)) (tTest (tOp (rI0 fun i j => .bl (decide (i < j))) ta tb)) := et_cmp op_lt vop_lt ha hb (nomark _)
theorem et_le (ha : EvE W X a f ta) (hb : EvE W X b g tb) : EvT W X (.Compare a [.LtE] [b] pos) (sTest (sApp2 opLe f g)) (tTest (tOp (rI0 fun i j => .bl (decide (i ≤ j))) ta tb)) := et_cmp op_le vop_le ha hb (nomark _)
theorem et_gt (ha : EvE W X a f ta) (hb : EvE W X b g tb) : EvT W X (.Compare a [.Gt] [b] pos) (sTest (sApp2 opGt f g)) (tTest (tOp (rI0 fun i j => .bl (decide (j < i))) ta tb)) := et_cmp op_gt vop_gt ha hb (nomark _)
theorem et_ge (ha : EvE W X a f ta) (hb : EvE W X b g tb) : EvT W X (.Compare a [.GtE] [b] pos) (sTest (sApp2 opGe f g)) (tTest (tOp (rI0 fun i j => .bl (decide (j ≤ i))) ta tb)) := et_cmp op_ge vop_ge ha hb (nomark _)
theorem et_eq (hu : X.A.units + 64 < cLine) (ha : EvE W X a f ta) (hb : EvE W X b g tb) (hK : X.K = W.K := by rfl) : EvT W X (.Compare a [.Eq] [b] pos) (sTest (sApp2 opEq f g)) (tTest (tOp (rEqD W.K) ta tb)) := et_cmp (hK ▸ op_eqD hu) vop_eq ha hb (nomark _)
theorem et_ne (hu : X.A.units + 64 < cLine) (ha : EvE W X a f ta) (hb : EvE W X b g tb) (hK : X.K = W.K := by rfl) : EvT W X (.Compare a [.NotEq] [b] pos) (sTest (sApp2 opNe f g)) (tTest (tOp (rNeD W.K) ta tb)) := et_cmp (hK ▸ op_neD hu) vop_ne ha hb (nomark _)
theorem et_isN (ha : EvE W X a f ta) (hb : EvE W X b g tb) : EvT W X (.Compare a [.Is] [b] pos) (sTest (sApp2 opIsN f g)) (tTest (tOp rIsN ta tb)) := et_cmp op_isN vop_isN ha hb (nomark _)
theorem et_notN (ha : EvE W X a f ta) (hb : EvE W X b g tb) : EvT W X (.Compare a [.IsNot] [b] pos) (sTest (sApp2 opNotN f g)) (tTest (tOp rNotN ta tb)) := et_cmp op_notN vop_notN ha hb (nomark _)
theorem et_isB (ha : EvE W X a f ta) (hb : EvE W X b g tb) : EvT W X (.Compare a [.Is] [b] pos) (sTest (sApp2 opIsB f g)) (tTest (tOp rIsB ta tb)) := et_cmp op_isBl vop_isB ha hb (nomark _)
theorem et_notB (ha : EvE W X a f ta) (hb : EvE W X b g tb) : EvT W X (.Compare a [.IsNot] [b] pos) (sTest (sApp2 opNotB f g)) (tTest (tOp rNotB ta tb)) := et_cmp op_notBl vop_notB ha hb (nomark _)
theorem et_in (ha : EvE W X a f ta) (hb : EvE W X b g tb) (hm : behindInMarks .In b = false := by rfl) (hK : X.K = W.K := by rfl) : EvT W X (.Compare a [.In] [b] pos) (sTest (sApp2 (opIn false) f g)) (tTest (tOp (rIn W.K false) ta tb)) := et_cmp (hK ▸ op_in_seq) (vop_in false) ha hb hm
theorem et_notIn (ha : EvE W X a f ta) (hb : EvE W X b g tb) (hm : behindInMarks .NotIn b = false := by rfl) (hK : X.K = W.K := by rfl) : EvT W X (.Compare a [.NotIn] [b] pos) (sTest (sApp2 (opIn true) f g)) (tTest (tOp (rIn W.K true) ta tb)) := et_cmp (hK ▸ op_notIn_seq) (vop_in true) ha hb hm
/-- an expression whose value is a truth, as a test -/
theorem et_val (h : EvE W X e f ta) (he : ∀ whole, isTrue e X.env whole = (do let v ← whole; standAt e.pos; holding [v] (truthy v)) := by intro _; rfl) : EvT W X e (sTest f) (tTest ta) :=
  let ⟨pa, sa⟩ := h
  ⟨pt_val pa he, sim_test sa⟩
theorem et_w (h : EvW W X e s tp) : EvT W X e s tp :=
  let ⟨pa, sa⟩ := h
  ⟨pa.pt, sa⟩
theorem et_not (h : EvT W X a s tp) : EvT W X (.UnaryOp .Not a pos) (sNot s) (tNot tp) :=
  let ⟨pa, sa⟩ := h
  ⟨pt_not pa, sim_not sa⟩
theorem ew_and1 (h : EvT W X a s tp) : EvW W X (.BoolOp .And [a] pos) s tp :=
  let ⟨pa, sa⟩ := h
  ⟨pw_and1 pa, sa⟩
theorem ew_or1 (h : EvT W X a s tp) : EvW W X (.BoolOp .Or [a] pos) s tp :=
  let ⟨pa, sa⟩ := h
  ⟨pw_or1 pa, sa⟩
theorem ew_and {rest : List Expr} (h : EvT W X a s tp) (h2 : EvW W X (.BoolOp .And (b :: rest) pos) u tq) : EvW W X (.BoolOp .And (a :: b :: rest) pos) (sAnd s u) (tAnd tp tq) :=
  let ⟨pa, sa⟩ := h
  let ⟨pb, sb⟩ := h2
  ⟨pw_and pa pb, sim_and sa sb⟩
theorem ew_or {rest : List Expr} (h : EvT W X a s tp) (h2 : EvW W X (.BoolOp .Or (b :: rest) pos) u tq) : EvW W X (.BoolOp .Or (a :: b :: rest) pos) (sOr s u) (tOr tp tq) :=
  let ⟨pa, sa⟩ := h
  let ⟨pb, sb⟩ := h2
  ⟨pw_or pa pb, sim_or sa sb⟩
theorem ev_one {op} (h : EvE W X a f ta) : EvE W X (.BoolOp op [a] pos) f ta :=
  let ⟨pa, sa⟩ := h
  ⟨pe_one pa, sa⟩
theorem ev_and {rest : List Expr} (h : EvE W X a f ta) (h2 : EvE W X (.BoolOp .And (b :: rest) pos) g tb) : EvE W X (.BoolOp .And (a :: b :: rest) pos) (sAndV f g) (tAndV ta tb) :=
  let ⟨pa, sa⟩ := h
  let ⟨pb, sb⟩ := h2
  ⟨pe_and pa pb, sim_andV sa sb⟩
theorem ev_or {rest : List Expr} (h : EvE W X a f ta) (h2 : EvE W X (.BoolOp .Or (b :: rest) pos) g tb) : EvE W X (.BoolOp .Or (a :: b :: rest) pos) (sOrV f g) (tOrV ta tb) :=
  let ⟨pa, sa⟩ := h
  let ⟨pb, sb⟩ := h2
  ⟨pe_or pa pb, sim_orV sa sb⟩
theorem ev_not (h : EvE W X a f ta) : EvE W X (.UnaryOp .Not a pos) (sNotV f) (tNotV ta) :=
  let ⟨pa, sa⟩ := h
  ⟨pe_not pa, sim_notV sa⟩
theorem ev_ife {t : Expr} (ht : EvT W X t s tp) (ha : EvE W X a f ta) (hb : EvE W X b g tb) : EvE W X (.IfExp t a b pos) (sIfE s f g) (tIf tp ta tb) :=
  let ⟨pt, st⟩ := ht
  let ⟨pa, sa⟩ := ha
  let ⟨pb, sb⟩ := hb
  ⟨pe_ifExp pt pa pb, sim_ifE st sa sb⟩
theorem sim_chain {W : Wd} {p q : Int → Int → Bool} {r r' : R2} {ta tb tc : TE} (hr : ∀ i j H Q, Q (.bl (p i j)) H → r (.int i) (.int j) H Q) (hr' : ∀ i j H Q, Q (.bl (q i j)) H → r' (.int i) (.int j) H Q) (ha : SimE W ta f) (hb : SimE W tb g) (hc : SimE W tc h) :
    SimE W (tChain r r' ta tb tc) (sChain p q f g h) := by
  intro ρ σ H F G As rv ρ' Q S e k
  unfold sChain at e
  split at e
  case h_2 => cases e
  rename_i m i ρ1 e1
  split at e
  case h_2 => cases e
  rename_i m2 j ρ2 e2
  refine ha ρ σ H F G As _ _ _ S e1 fun v H1 G1 As1 B1 p1 rep1 t1 o1 => ?_
  obtain ⟨rfl, rfl⟩ := rep_int rep1
  refine hb _ σ H1 F G1 As1 _ _ _ p1.st e2 fun v2 H2 G2 As2 B2 p2 rep2 t2 o2 => ?_
  obtain ⟨rfl, rfl⟩ := rep_int rep2
  refine hr _ _ _ _ ⟨p i j, rfl, ?_⟩
  have P := p1.trans S p2
  cases hp : p i j with
  | false =>
    rw [hp] at e
    cases e
    exact iteF (k _ H2 G2 As2 [] P (.bl _ _) tmp_nil fun _ z => nomatch z)
  | true =>
    rw [hp] at e
    simp only [if_true] at e
    split at e
    case h_2 => cases e
    rename_i m3 l ρ3 e3
    cases e
    refine iteT ?_
    refine hc _ σ H2 F G2 As2 _ _ _ p2.st e3 fun v3 H3 G3 As3 B3 p3 rep3 t3 o3 => ?_
    obtain ⟨rfl, rfl⟩ := rep_int rep3
    exact hr' _ _ _ _ (k _ H3 G3 As3 [] (P.trans S p3) (.bl _ _) tmp_nil fun _ z => nomatch z)
theorem ev_leLt {d : Expr} (ha : EvE W X a f ta) (hb : EvE W X b g tb) (hc : EvE W X d h tc) (hm : lastMarks [.LtE, .Lt] [b, d] = false := by with_unfolding_all rfl) : EvE W X (.Compare a [.LtE, .Lt] [b, d] pos) (sChain (fun i j => decide (i ≤ j)) (fun i j => decide (i < j)) f g h) (tChain (rI0 fun i j => .bl (decide (i ≤ j))) (rI0 fun i j => .bl (decide (i < j))) ta tb tc) :=
  let ⟨pa, sa⟩ := ha
  let ⟨pb, sb⟩ := hb
  let ⟨pc, sc⟩ := hc
  ⟨pe_chain op_le op_lt pa pb pc hm, sim_chain (fun i j H Q q => ⟨i, j, rfl, rfl, q⟩) (fun i j H Q q => ⟨i, j, rfl, rfl, q⟩) sa sb sc⟩
theorem et_leLt {d : Expr} (ha : EvE W X a f ta) (hb : EvE W X b g tb) (hc : EvE W X d h tc) (hm : lastMarks [.LtE, .Lt] [b, d] = false := by with_unfolding_all rfl) : EvT W X (.Compare a [.LtE, .Lt] [b, d] pos) (sTest (sChain (fun i j => decide (i ≤ j)) (fun i j => decide (i < j)) f g h)) (tTest (tChain (rI0 fun i j => .bl (decide (i ≤ j))) (rI0 fun i j => .bl (decide (i < j))) ta tb tc)) :=
  let ⟨pa, sa⟩ := ha
  let ⟨pb, sb⟩ := hb
  let ⟨pc, sc⟩ := hc
  ⟨pt_chain op_le op_lt pa pb pc hm, sim_test (sim_chain (fun i j H Q q => ⟨i, j, rfl, rfl, q⟩) (fun i j H Q q => ⟨i, j, rfl, rfl, q⟩) sa sb sc)⟩
theorem et_leLe {d : Expr} (ha : EvE W X a f ta) (hb : EvE W X b g tb) (hc : EvE W X d h tc) (hm : lastMarks [.LtE, .LtE] [b, d] = false := by with_unfolding_all rfl) : EvT W X (.Compare a [.LtE, .LtE] [b, d] pos) (sTest (sChain (fun i j => decide (i ≤ j)) (fun i j => decide (i ≤ j)) f g h)) (tTest (tChain (rI0 fun i j => .bl (decide (i ≤ j))) (rI0 fun i j => .bl (decide (i ≤ j))) ta tb tc)) :=
  let ⟨pa, sa⟩ := ha
  let ⟨pb, sb⟩ := hb
  let ⟨pc, sc⟩ := hc
  ⟨pt_chain op_le op_le pa pb pc hm, sim_test (sim_chain (fun i j H Q q => ⟨i, j, rfl, rfl, q⟩) (fun i j H Q q => ⟨i, j, rfl, rfl, q⟩) sa sb sc)⟩
/-! ### arguments, displays, calls -/
theorem ea_nil : EvA W X [] sNil tNil := ⟨pa_nil, sim_nil⟩
theorem ea_cons (ha : EvE W X e f ta) (hr : EvA W X es fs tA) (hs : starEach (e :: es) X.env = (false, eval e X.env) :: starEach es X.env := by rfl) : EvA W X (e :: es) (sCons f fs) (tCons ta tA) :=
  let ⟨pa, sa⟩ := ha
  let ⟨pb, sb⟩ := hr
  ⟨pa_cons pa pb hs, sim_cons sa sb⟩
theorem ev_tup {k : Nat} (h : EvA W X es fs tA) : EvE W X (.Tuple es k pos) (sApp opTup fs) (tTup tA) :=
  let ⟨pa, sa⟩ := h
  ⟨pe_tup pa, sim_app (rr := rTup) sa vop_tup⟩
theorem ev_lst (h : EvA W X es fs tA) : EvE W X (.List es pos) (sApp opLst fs) (tLst tA) :=
  let ⟨pa, sa⟩ := h
  ⟨pe_lst pa, sim_app (rr := rLst) sa vop_lst⟩
theorem ev_idx (ha : EvE W X a f ta) (hb : EvE W X b g tb) (hs : PlainIx b := by exact fun _ _ => rfl) (hK : X.K = W.K := by rfl) : EvE W X (.Subscript a b pos) (sApp2 opIdx f g) (tOp (rIx W.K) ta tb) :=
  let ⟨pa, sa⟩ := ha
  let ⟨pb, sb⟩ := hb
  ⟨pe_ix (hK ▸ ix_seq) pa pb hs, sim_app2 sa sb vop_idx⟩
theorem eo_none : EvO W X none sONone tNoPart := ⟨po_none, sim_onone⟩
theorem eo_some (h : EvE W X e f ta) : EvO W X (some e) (sOSome f) (tPart ta) :=
  let ⟨pa, sa⟩ := h
  ⟨po_some pa, sim_osome sa⟩
theorem ev_cut {lo hi : Option Expr} {p2 : Pos} {l r : Env → Option (Option Int × Env)} (h : EvE W X e f ta) (hl : EvO W X lo l tl) (hr : EvO W X hi r tr) (hK : X.K = W.K := by rfl) : EvE W X (.Subscript e (.Slice lo hi none p2) pos) (sCut f l r) (tSl (rSlL W.K) ta tl tr) :=
  let ⟨pa, sa⟩ := h
  let ⟨pl, sl⟩ := hl
  let ⟨pr, sr⟩ := hr
  ⟨pe_slice (hK ▸ sl_list) pa pl pr, sim_cut sa sl sr⟩
theorem ev_blt {id : String} {r : RV} {o : List Val → Option Val} (hc : CallR X (.builtin id) r) (ho : VOp W r o) (hg : Gl X x) (hm : X.mg x = none) (hv : bootBuiltins x = some (.builtin id)) (ha : EvA W X (e :: es) fs tA) (hn : x ≠ "__name__" := by decide) (hdb : (x == ("__debug__" : Str)) = false := by decide)
    (he : starEach (e :: es) X.env = (false, eval e X.env) :: starEach es X.env := by rfl) (hpl : (backTo pos (starEach es X.env)).any (·.1) = false := by rfl) : EvE W X (.Call (.Name x p) (e :: es) [] pos) (sApp o fs) (tCB r tA) :=
  let ⟨pa, sa⟩ := ha
  ⟨pe_callB hc hg hm hv pa hn hdb he hpl, sim_app sa ho⟩
theorem ev_bty {T : String} {r : RV} {o : List Val → Option Val} (hc : CallR X (.type T) r) (ho : VOp W r o) (hg : Gl X x) (hm : X.mg x = none) (hv : bootBuiltins x = some (.type T)) (ha : EvA W X (e :: es) fs tA) (hn : x ≠ "__name__" := by decide) (hdb : (x == ("__debug__" : Str)) = false := by decide)
    (he : starEach (e :: es) X.env = (false, eval e X.env) :: starEach es X.env := by rfl) (hpl : (backTo pos (starEach es X.env)).any (·.1) = false := by rfl) : EvE W X (.Call (.Name x p) (e :: es) [] pos) (sApp o fs) (tCB r tA) :=
  let ⟨pa, sa⟩ := ha
  ⟨pe_callTy hc hg hm hv pa hn hdb he hpl, sim_app sa ho⟩
theorem ev_len (hg : Gl X "len") (hm : X.mg "len" = none) (ha : EvA W X (e :: es) fs tA) (he : starEach (e :: es) X.env = (false, eval e X.env) :: starEach es X.env := by rfl) (hpl : (backTo pos (starEach es X.env)).any (·.1) = false := by rfl) (hK : X.K = W.K := by rfl) :
    EvE W X (.Call (.Name "len" p) (e :: es) [] pos) (sApp opLen fs) (tCB (rLen W.K) tA) := ev_blt (hK ▸ call_len) vop_len hg hm (by decide +kernel) ha (by decide) (by decide) he hpl
theorem ev_abs (hg : Gl X "abs") (hm : X.mg "abs" = none) (ha : EvA W X (e :: es) fs tA) (he : starEach (e :: es) X.env = (false, eval e X.env) :: starEach es X.env := by rfl) (hpl : (backTo pos (starEach es X.env)).any (·.1) = false := by rfl) :
    EvE W X (.Call (.Name "abs" p) (e :: es) [] pos) (sApp opAbs fs) (tCB rAbs tA) := ev_blt call_abs vop_abs hg hm (by decide +kernel) ha (by decide) (by decide) he hpl
theorem ev_all (hc : X.calm = true) (hg : Gl X "all") (hm : X.mg "all" = none) (ha : EvA W X (e :: es) fs tA) (he : starEach (e :: es) X.env = (false, eval e X.env) :: starEach es X.env := by rfl) (hpl : (backTo pos (starEach es X.env)).any (·.1) = false := by rfl) (hK : X.K = W.K := by rfl) :
    EvE W X (.Call (.Name "all" p) (e :: es) [] pos) (sApp opAll fs) (tCB (rAll W.K) tA) := ev_blt (hK ▸ cr_all hc) vop_all hg hm (by decide +kernel) ha (by decide) (by decide) he hpl
theorem ev_any (hc : X.calm = true) (hg : Gl X "any") (hm : X.mg "any" = none) (ha : EvA W X (e :: es) fs tA) (he : starEach (e :: es) X.env = (false, eval e X.env) :: starEach es X.env := by rfl) (hpl : (backTo pos (starEach es X.env)).any (·.1) = false := by rfl) (hK : X.K = W.K := by rfl) :
    EvE W X (.Call (.Name "any" p) (e :: es) [] pos) (sApp opAny fs) (tCB (rAny W.K) tA) := ev_blt (hK ▸ cr_any hc) vop_any hg hm (by decide +kernel) ha (by decide) (by decide) he hpl
theorem ev_sum (hc : X.calm = true) (hg : Gl X "sum") (hm : X.mg "sum" = none) (ha : EvA W X (e :: es) fs tA) (he : starEach (e :: es) X.env = (false, eval e X.env) :: starEach es X.env := by rfl) (hpl : (backTo pos (starEach es X.env)).any (·.1) = false := by rfl) (hK : X.K = W.K := by rfl) :
    EvE W X (.Call (.Name "sum" p) (e :: es) [] pos) (sApp opSum fs) (tCB (rSum W.K) tA) := ev_blt (hK ▸ cr_sum hc) vop_sum hg hm (by decide +kernel) ha (by decide) (by decide) he hpl
theorem ev_isi (hg : Gl X "isinstance") (hm : X.mg "isinstance" = none) (ha : EvA W X (e :: es) fs tA) (he : starEach (e :: es) X.env = (false, eval e X.env) :: starEach es X.env := by rfl) (hpl : (backTo pos (starEach es X.env)).any (·.1) = false := by rfl) (hK : X.K = W.K := by rfl) :
    EvE W X (.Call (.Name "isinstance" p) (e :: es) [] pos) (sApp opIsi fs) (tCB (rIsi W.K) tA) := ev_blt (hK ▸ call_isi) vop_isi hg hm (by decide +kernel) ha (by decide) (by decide) he hpl
theorem ev_max2 (hc : X.calm = true) (hg : Gl X "max") (hm : X.mg "max" = none) (ha : EvA W X (e :: es) fs tA) (he : starEach (e :: es) X.env = (false, eval e X.env) :: starEach es X.env := by rfl) (hpl : (backTo pos (starEach es X.env)).any (·.1) = false := by rfl) :
    EvE W X (.Call (.Name "max" p) (e :: es) [] pos) (sApp opMax2 fs) (tCB rMax2 tA) := ev_blt (call_max2 hc) vop_max2 hg hm (by decide +kernel) ha (by decide) (by decide) he hpl
theorem ev_min2 (hc : X.calm = true) (hg : Gl X "min") (hm : X.mg "min" = none) (ha : EvA W X (e :: es) fs tA) (he : starEach (e :: es) X.env = (false, eval e X.env) :: starEach es X.env := by rfl) (hpl : (backTo pos (starEach es X.env)).any (·.1) = false := by rfl) :
    EvE W X (.Call (.Name "min" p) (e :: es) [] pos) (sApp opMin2 fs) (tCB rMin2 tA) := ev_blt (call_min2 hc) vop_min2 hg hm (by decide +kernel) ha (by decide) (by decide) he hpl
theorem ev_maxL (hc : X.calm = true) (hg : Gl X "max") (hm : X.mg "max" = none) (ha : EvA W X (e :: es) fs tA) (he : starEach (e :: es) X.env = (false, eval e X.env) :: starEach es X.env := by rfl) (hpl : (backTo pos (starEach es X.env)).any (·.1) = false := by rfl) (hK : X.K = W.K := by rfl) :
    EvE W X (.Call (.Name "max" p) (e :: es) [] pos) (sApp opMaxL fs) (tCB (rMax W.K) tA) := ev_blt (hK ▸ cr_max hc) vop_maxL hg hm (by decide +kernel) ha (by decide) (by decide) he hpl
theorem ev_minL (hc : X.calm = true) (hg : Gl X "min") (hm : X.mg "min" = none) (ha : EvA W X (e :: es) fs tA) (he : starEach (e :: es) X.env = (false, eval e X.env) :: starEach es X.env := by rfl) (hpl : (backTo pos (starEach es X.env)).any (·.1) = false := by rfl) (hK : X.K = W.K := by rfl) :
    EvE W X (.Call (.Name "min" p) (e :: es) [] pos) (sApp opMinL fs) (tCB (rMin W.K) tA) := ev_blt (hK ▸ cr_min hc) vop_minL hg hm (by decide +kernel) ha (by decide) (by decide) he hpl
theorem ev_int1 (hg : Gl X "int") (hm : X.mg "int" = none) (ha : EvA W X (e :: es) fs tA) (he : starEach (e :: es) X.env = (false, eval e X.env) :: starEach es X.env := by rfl) (hpl : (backTo pos (starEach es X.env)).any (·.1) = false := by rfl) :
    EvE W X (.Call (.Name "int" p) (e :: es) [] pos) (sApp opInt fs) (tCB rInt1 tA) := ev_bty call_int1 vop_int hg hm (by decide +kernel) ha (by decide) (by decide) he hpl
theorem ev_list1 (hg : Gl X "list") (hm : X.mg "list" = none) (ha : EvA W X (e :: es) fs tA) (he : starEach (e :: es) X.env = (false, eval e X.env) :: starEach es X.env := by rfl) (hpl : (backTo pos (starEach es X.env)).any (·.1) = false := by rfl) (hK : X.K = W.K := by rfl) :
    EvE W X (.Call (.Name "list" p) (e :: es) [] pos) (sApp opList fs) (tCB (rListOf W.K) tA) := ev_bty (hK ▸ call_list_of) vop_list hg hm (by decide +kernel) ha (by decide) (by decide) he hpl
theorem ev_ty_int {pos : Pos} (hg : Gl X "int") (hm : X.mg "int" = none) : EvE W X (.Name "int" pos) (sCon (.ty "int")) (tC (.ty "int")) := ev_ty hg hm (by decide +kernel)
theorem ev_ty_bool {pos : Pos} (hg : Gl X "bool") (hm : X.mg "bool" = none) : EvE W X (.Name "bool" pos) (sCon (.ty "bool")) (tC (.ty "bool")) := ev_ty hg hm (by decide +kernel)
theorem ev_ty_list {pos : Pos} (hg : Gl X "list") (hm : X.mg "list" = none) : EvE W X (.Name "list" pos) (sCon (.ty "list")) (tC (.ty "list")) := ev_ty hg hm (by decide +kernel)
theorem ev_ty_tuple {pos : Pos} (hg : Gl X "tuple") (hm : X.mg "tuple" = none) : EvE W X (.Name "tuple" pos) (sCon (.ty "tuple")) (tC (.ty "tuple")) := ev_ty hg hm (by decide +kernel)
theorem ev_ty_str {pos : Pos} (hg : Gl X "str") (hm : X.mg "str" = none) : EvE W X (.Name "str" pos) (sCon (.ty "str")) (tC (.ty "str")) := ev_ty hg hm (by decide +kernel)
theorem spPure_call {W : Wd} {n : Nat} {o : List D → Option Val} {E : XK} (hn : ∀ ds, (o ds).isSome = true → ds.length = n) : VOp W (fun vs H Q => spPure (W0 W.K W.cls) n o (vs ++ []) H Q E) (opFn o) := by
  obtain ⟨K, cl, pn⟩ := W
  intro H G rs vs A r Q gh rep nd ga e k
  rw [List.append_nil]
  exact spPure_pin <| spPure_op hn H G rs vs A r Q gh rep nd ga e k
/-- a call of a def -/
theorem ev_call {k n : Nat} {fa : Addr} {fd : FuncData} {ps : List Str} {o : List D → Option Val} (F : FnOk X.prog X.w X.K X.mg X.base CX0 k fa fd ps (spPure (W0 W.K W.cls) n o)) (hn : ∀ ds, (o ds).isSome = true → ds.length = n) (hr : Room k X.A) (hg : Gl X x) (hm : X.mg x = some (.ref fa)) (hk : PySem.W.keepIn X.K (.ref fa) = true) (hb : Binds X.K fd ps [])
    (ha : EvA W X (e :: es) fs tA) (hdb : (x == ("__debug__" : Str)) = false := by decide) (he : starEach (e :: es) X.env = (false, eval e X.env) :: starEach es X.env := by rfl) (hpl : (backTo pos (starEach es X.env)).any (·.1) = false := by rfl) :
    EvE W X (.Call (.Name x p) (e :: es) [] pos) (sApp (opFn o) fs) (tCall (spPure (W0 W.K W.cls) n o) [] E0 tA) :=
  let ⟨pa, sa⟩ := ha
  ⟨pe_call F hr hg hm hk hb .nil pass0 pa hdb he hpl, sim_app (rr := fun vs H Q => spPure (W0 W.K W.cls) n o (vs ++ []) H Q E0) sa (spPure_call hn)⟩
/-! ### what is walked -/
theorem ei_seq {tg : Expr} (h : EvE W X e f ta) (hK : X.K = W.K := by rfl) : EvI W X tg e (iSq f) (iSeq W.K ta) := ⟨hK ▸ pi_seq h.1, sim_isq h.2⟩
theorem ei_rng1 {tg a : Expr} (hg : Gl X "range") (hm : X.mg "range" = none) (ha : EvA W X [a] fs tA) (hs : starEach [a] X.env = [(false, eval a X.env)] := by rfl) : EvI W X tg (.Call (.Name "range" p) [a] [] pos) (iRange1 fs) (iRng1 tA) :=
  let ⟨pa, sa⟩ := ha
  ⟨pi_range1 hg hm pa hs, sim_rng1 sa⟩
theorem ei_rng2 {tg a b : Expr} (hg : Gl X "range") (hm : X.mg "range" = none) (ha : EvA W X [a, b] fs tA) (hs : starEach [a, b] X.env = [(false, eval a X.env), (false, eval b X.env)] := by rfl) (hs2 : starEach [b] X.env = [(false, eval b X.env)] := by rfl) : EvI W X tg (.Call (.Name "range" p) [a, b] [] pos) (iRange2 fs) (iRng2 tA) :=
  let ⟨pa, sa⟩ := ha
  ⟨pi_range2 hg hm pa hs hs2, sim_rng2 sa⟩
theorem ei_rng3 {tg a b d : Expr} (hg : Gl X "range") (hm : X.mg "range" = none) (ha : EvA W X [a, b, d] fs tA) (hs : starEach [a, b, d] X.env = (false, eval a X.env) :: starEach [b, d] X.env := by rfl) (hpl : (backTo pos (starEach [b, d] X.env)).any (·.1) = false := by rfl) : EvI W X tg (.Call (.Name "range" p) [a, b, d] [] pos) (iRange3 fs) (iRng3 tA) :=
  let ⟨pa, sa⟩ := ha
  ⟨pi_range3 hg hm pa hs hpl, sim_rng3 sa⟩
theorem ei_enum {elts : List Expr} {kk : Nat} {tpos : Pos} (hg : Gl X "enumerate") (hm : X.mg "enumerate" = none) (ha : EvA W X [e] fs tA) (hs : starEach [e] X.env = [(false, eval e X.env)] := by rfl) (hK : X.K = W.K := by rfl) : EvI W X (.Tuple elts kk tpos) (.Call (.Name "enumerate" p) [e] [] pos) (iEnu fs) (iEnum W.K tA) :=
  let ⟨pa, sa⟩ := ha
  ⟨hK ▸ pi_enum hg hm pa hs, sim_ienu sa⟩
theorem ei_zip {e2 : Expr} {elts : List Expr} {kk : Nat} {tpos : Pos} (hg : Gl X "zip") (hm : X.mg "zip" = none) (ha : EvA W X [e, e2] fs tA) (hs : starEach [e, e2] X.env = (false, eval e X.env) :: starEach [e2] X.env := by rfl) (hpl : (backTo pos (starEach [e2] X.env)).any (·.1) = false := by rfl) (hK : X.K = W.K := by rfl) : EvI W X (.Tuple elts kk tpos) (.Call (.Name "zip" p) [e, e2] [] pos) (iZp fs) (iZipA W.K tA) :=
  let ⟨pa, sa⟩ := ha
  ⟨hK ▸ pi_zipA hg hm pa hs hpl, sim_izp sa⟩
theorem ei_rev {tg : Expr} (hg : Gl X "reversed") (hm : X.mg "reversed" = none) (ha : EvA W X [e] fs tA) (hs : starEach [e] X.env = [(false, eval e X.env)] := by rfl) (hK : X.K = W.K := by rfl) : EvI W X tg (.Call (.Name "reversed" p) [e] [] pos) (iRvs fs) (iRev W.K tA) :=
  let ⟨pa, sa⟩ := ha
  ⟨hK ▸ pi_reversed hg hm pa hs, sim_irvs sa⟩
/-! ### targets -/
theorem eg_name (i : Nat) {ws : List Nat} (hN : X.N.Nodup) (hi : X.N[i]? = some x := by rfl) (hx : Loc X.env.scope x := by first | exact Or.inl rfl | exact Or.inr rfl) (hf : X.fn x = true ∨ X.env.scope.names.lookup x = some .local := by first | exact .inl rfl | exact .inr rfl) (hw : i ∈ ws := by simp) (hpin : W.pin i = false := by rfl) : EvG W X ws (.Name x pos) (sGName i) (gName i) :=
  ⟨pg_name hN hi hx hf, sim_gname i hw hpin⟩
theorem egs_nil {ws : List Nat} : EvGs W X ws [] 0 sGNil gNil := ⟨⟨pgs_nil, sim_gnil⟩, gnil_len⟩
theorem egs_cons {ws : List Nat} {gf : STg} {gfs : List D → Mode → Env → Option Env} {n : Nat} (h1 : EvG W X ws e gf tg0) (h2 : EvGs W X ws es n gfs tgs) (hs : (assignEach (e :: es) X.env).map (·.2) = assign e X.env :: (assignEach es X.env).map (·.2) := by rfl) : EvGs W X ws (e :: es) (n + 1) (sGCons gf gfs) (gCons tg0 tgs) :=
  let ⟨pa, sa⟩ := h1
  let ⟨⟨pb, sb⟩, l⟩ := h2
  ⟨⟨pgs_cons pa pb hs, sim_gcons sa sb⟩, gcons_len l⟩
theorem eg_tup {ws : List Nat} {k n : Nat} {gfs : List D → Mode → Env → Option Env} (hc : X.calm = true) (h : EvGs W X ws es n gfs tgs) (hn : (assignEach es X.env).length = n := by rfl) (hst : (assignEach es X.env).findIdx? (·.1) = none := by rfl) (hK : X.K = W.K := by rfl) : EvG W X ws (.Tuple es k pos) (sGTup gfs) (gTup W.K n tgs) :=
  let ⟨⟨pb, sb⟩, l⟩ := h
  ⟨hK ▸ pg_tup hc pb hn hst, sim_gtup sb l⟩
/-! ### comprehensions -/
abbrev EvF (W : Wd) (X : Cx) (es : List Expr) (f : SB) (t : TT) : Prop := PTs X es t ∧ SimT W t f
theorem ef_nil : EvF W X [] sYes tYes := ⟨pts_nil, sim_yes⟩
theorem ef_one (h : EvT W X e s tp) : EvF W X [e] s tp := ⟨pts_one h.1, h.2⟩
/-! ### statements -/
theorem eb_nil : EvB W X [] sSkip tNext := ⟨pss_nil, sim_skip⟩
variable {st : Stmt} {rest : List Stmt} {sf sg : SS}
theorem eb_one (h : EvS W X st sf tS) : EvB W X [st] sf tS :=
  let ⟨pa, sa⟩ := h
  ⟨pss_one pa, sa⟩
theorem eb_cons (h : EvS W X st sf tS) (h2 : EvB W X rest sg tU) : EvB W X (st :: rest) (sSeq sf sg) (tSeq tS tU) :=
  let ⟨pa, sa⟩ := h
  let ⟨pb, sb⟩ := h2
  ⟨pss_cons pa pb, sim_seq sa sb⟩
theorem es_set (i : Nat) {pos' : Pos} (hN : X.N.Nodup) (he : EvE W X e f ta) (hi : X.N[i]? = some x := by rfl) (hx : Loc X.env.scope x := by first | exact Or.inl rfl | exact Or.inr rfl) (hs : swapsWith e (some (.Name x pos')) pos.line X.env = pure false := by rfl) (hf : X.fn x = true ∨ X.env.scope.names.lookup x = some .local := by first | exact .inl rfl | exact .inr rfl)
    (hpin : W.pin i = false := by rfl) : EvS W X (.Assign [.Name x pos'] e pos) (sSet i f) (tAsg ta (gName i)) :=
  let ⟨pa, sa⟩ := he
  ⟨ps_set hN hi hx pa hs hf, sim_set sa hpin⟩
theorem es_asg {tg : Expr} {gf : STg} {ws : List Nat} (he : EvE W X e f ta) (hg : EvG W X ws tg gf tg0) (hs : swapsWithSole [tg] e pos.line X.env = pure false := by rfl) (hw : swappedStores [tg] e X.env = pure none := by rfl) (h1 : (assignEach [tg] X.env).map (·.2) = [assign tg X.env] := by rfl) : EvS W X (.Assign [tg] e pos) (sAsg gf f) (tAsg ta tg0) :=
  let ⟨pa, sa⟩ := he
  let ⟨pb, sb⟩ := hg
  ⟨ps_asg pa pb hs hw h1, sim_asg sa sb⟩
theorem es_par (i j : Nat) {x y : Str} {px py pt : Pos} {kt k2 pt2} (hc : X.calm = true) (hN : X.N.Nodup) (ha : EvA W X [a, b] fs tA) (hi : X.N[i]? = some x := by rfl) (hj : X.N[j]? = some y := by rfl) (hij : i ≠ j := by decide)
    (hx : X.env.scope.names.lookup x = some .local := by rfl) (hy : X.env.scope.names.lookup y = some .local := by rfl)
    (hw : swappedStores [.Tuple [.Name x px, .Name y py] kt pt] (.Tuple [a, b] k2 pt2) X.env = pure (some [x, y]) := by rfl)
    (hs : swapsWithSole [.Tuple [.Name x px, .Name y py] kt pt] (.Tuple [a, b] k2 pt2) pos.line X.env = pure false := by rfl)
    (hpin : W.pin i = false := by rfl) (hpin2 : W.pin j = false := by rfl) : EvS W X (.Assign [.Tuple [.Name x px, .Name y py] kt pt] (.Tuple [a, b] k2 pt2) pos) (sPar i j fs) (tPar i j tA) :=
  let ⟨pa, sa⟩ := ha
  ⟨ps_par hc hN hi hj hij hx hy pa hw hs, sim_par sa hpin hpin2⟩
theorem es_aug (i : Nat) {op : Operator} {pos' : Pos} {ti : TIp} {o : List Val → Option Val} (hN : X.N.Nodup) (he : EvE W X e f ta) (ho : PIp X op ti) (hv : VOp W (rr2 ti) o) (hi : X.N[i]? = some x := by rfl) (hx : Loc X.env.scope x := by first | exact Or.inl rfl | exact Or.inr rfl) (hf : X.fn x = true ∨ X.env.scope.names.lookup x = some .local := by first | exact .inl rfl | exact .inr rfl)
    (hpin : W.pin i = false := by rfl) : EvS W X (.AugAssign (.Name x pos') op e pos) (sSet i (sApp2 o (sVar i) f)) (tAsg (tOp ti (tVar i) ta) (gName i)) :=
  let ⟨pa, sa⟩ := he
  ⟨⟨fun pins s σ H D I h => (ps_aug hN hi hx pa ho hf).run pins s σ H D I h⟩, sim_set (sim_app2 (sim_var i) sa hv) hpin⟩
def opAddI : List Val → Option Val
  | [⟨_, .int a⟩, ⟨_, .int b⟩] => some ⟨.O, .int (a + b)⟩
  | _ => none
theorem vop_addI {W : Wd} : VOp W (rr2 (ipI fun i j => i + j)) opAddI :=
  vop_ii (fun _ _ => True) (fun i j => .int (i + j)) (fun i j => .int (i + j)) (fun rs r e => by
    unfold opAddI at e
    split at e
    · cases e; exact ⟨_, _, _, _, rfl, trivial, rfl⟩
    · cases e) (fun i j H G => .int _ _) fun i j H Q _ q => ⟨i, j, rfl, rfl, q⟩
theorem vop_subI {W : Wd} : VOp W (rr2 (ipI fun i j => i - j)) opSub :=
  vop_ii (fun _ _ => True) (fun i j => .int (i - j)) (fun i j => .int (i - j)) (fun rs r e => by
    unfold opSub at e
    split at e
    · cases e; exact ⟨_, _, _, _, rfl, trivial, rfl⟩
    · cases e) (fun i j H G => .int _ _) fun i j H Q _ q => ⟨i, j, rfl, rfl, q⟩
theorem es_augAdd (i : Nat) {pos' : Pos} (hN : X.N.Nodup) (he : EvE W X e f ta) (hi : X.N[i]? = some x := by rfl) (hx : Loc X.env.scope x := by first | exact Or.inl rfl | exact Or.inr rfl) (hf : X.fn x = true ∨ X.env.scope.names.lookup x = some .local := by first | exact .inl rfl | exact .inr rfl)
    (hpin : W.pin i = false := by rfl) : EvS W X (.AugAssign (.Name x pos') .Add e pos) (sSet i (sApp2 opAddI (sVar i) f)) (tAsg (tOp (ipI fun i j => i + j) (tVar i) ta) (gName i)) := es_aug i hN he ip_add vop_addI hi hx hf hpin
theorem es_augSub (i : Nat) {pos' : Pos} (hN : X.N.Nodup) (he : EvE W X e f ta) (hi : X.N[i]? = some x := by rfl) (hx : Loc X.env.scope x := by first | exact Or.inl rfl | exact Or.inr rfl) (hf : X.fn x = true ∨ X.env.scope.names.lookup x = some .local := by first | exact .inl rfl | exact .inr rfl)
    (hpin : W.pin i = false := by rfl) : EvS W X (.AugAssign (.Name x pos') .Sub e pos) (sSet i (sApp2 opSub (sVar i) f)) (tAsg (tOp (ipI fun i j => i - j) (tVar i) ta) (gName i)) := es_aug i hN he ip_sub vop_subI hi hx hf hpin
theorem es_append (i : Nat) {apos : Pos} (he : EvE W X a f ta) (hN : X.N[i]? = some x := by rfl) (hv : Vis X.env.scope x := by first | exact Or.inl rfl | exact Or.inr (Or.inl rfl) | exact Or.inr (Or.inr rfl)) (hd : (x == ("__debug__" : Str)) = false := by decide)
    (hcd : (x == ("__classdict__" : Str)) = false := by decide) (hbase : attributeBase (.Name x p) "append" X.env (eval (.Name x p) X.env) = eval (.Name x p) X.env := by rfl)
    (hfew : ((backTo pos (starEach (a :: []) X.env)).all (fun x => !x.1) && (backToKw pos (keywordEach [] X.env)).all (fun x => x.1.isSome)
      && decide ((a :: []).length + ([] : List Keyword).length + (if ([] : List Keyword).isEmpty then 0 else 1) < 30)) = true := by rfl)
    (hline : (apos.endLine == pos.line) = true := by rfl) (hs : starEach (a :: []) X.env = (false, eval a X.env) :: starEach [] X.env := by rfl) (hplain : (backTo pos (starEach [] X.env)).any (·.1) = false := by rfl)
    {pos2 : Pos} (hsw : swapsWith (.Call (.Attribute (.Name x p) "append" apos) [a] [] pos) none pos2.line X.env = pure false := by rfl) (hK : X.K = W.K := by rfl) :
    EvS W X (.Expr (.Call (.Attribute (.Name x p) "append" apos) [a] [] pos) pos2) (sApnd i f) (tDrop (tBM W.K "list" rAppend (tVar i) (tCons ta tNil))) :=
  let ⟨pa, sa⟩ := he
  ⟨ps_expr (hK ▸ pe_bm PySem.F.plainAttrs_list PySem.F.slot_list_append PySem.F.type_list_append mt_append (pe_var hN hv hd hcd) (pa_cons pa pa_nil hs) hbase hfew hline hs hplain) hsw, sim_apnd sa⟩
theorem eg_sub {ws : List Nat} (i : Nat) (hb : EvE W X b g tb) (hN : X.N[i]? = some x := by rfl) (hv : Vis X.env.scope x := by first | exact Or.inl rfl | exact Or.inr (Or.inl rfl) | exact Or.inr (Or.inr rfl)) (hd : (x == ("__debug__" : Str)) = false := by decide)
    (hcd : (x == ("__classdict__" : Str)) = false := by decide) (ha : ∀ v, assign (.Subscript (.Name x p) b pos) X.env v = (do
      let ov ← holding [v] (eval (.Name x p) X.env)
      let iv ← holding [v, ov] (eval b X.env)
      standAt pos
      holding [v, ov, iv] (setItem ov iv v)
      release [v, ov, iv] []) := by intro _; rfl) : EvG W X ws (.Subscript (.Name x p) b pos) (sGSub i g) (gSub (tVar i) tb rSetL) :=
  let ⟨pb, sb⟩ := hb
  ⟨pg_sub (pe_var hN hv hd hcd) pb set_list ha, sim_gsub sb⟩
theorem es_augSAdd (i : Nat) {tpos : Pos} (hb : EvE W X b g tb) (he : EvE W X a f ta) (hN : X.N[i]? = some x := by rfl) (hv : Vis X.env.scope x := by first | exact Or.inl rfl | exact Or.inr (Or.inl rfl) | exact Or.inr (Or.inr rfl)) (hd : (x == ("__debug__" : Str)) = false := by decide)
    (hcd : (x == ("__classdict__" : Str)) = false := by decide) (ha : ∀ ov iv new, augStore b ov iv new = (do holding [new, ov, iv] (setItem ov iv new); release [new, ov, iv] []; pure Flow.next) := by intros; rfl) (hK : X.K = W.K := by rfl) :
    EvS W X (.AugAssign (.Subscript (.Name x p) b tpos) .Add a pos) (sAugS i (fun i j => i + j) g f) (tAugS (tVar i) tb ta (rIxL W.K) (ipI fun i j => i + j) rSetL) :=
  let ⟨pb, sb⟩ := hb
  let ⟨pa, sa⟩ := he
  ⟨hK ▸ ps_augS (pe_var hN hv hd hcd) pb pget_list pa ip_add set_list ha, sim_augS sb sa⟩
theorem es_augSSub (i : Nat) {tpos : Pos} (hb : EvE W X b g tb) (he : EvE W X a f ta) (hN : X.N[i]? = some x := by rfl) (hv : Vis X.env.scope x := by first | exact Or.inl rfl | exact Or.inr (Or.inl rfl) | exact Or.inr (Or.inr rfl)) (hd : (x == ("__debug__" : Str)) = false := by decide)
    (hcd : (x == ("__classdict__" : Str)) = false := by decide) (ha : ∀ ov iv new, augStore b ov iv new = (do holding [new, ov, iv] (setItem ov iv new); release [new, ov, iv] []; pure Flow.next) := by intros; rfl) (hK : X.K = W.K := by rfl) :
    EvS W X (.AugAssign (.Subscript (.Name x p) b tpos) .Sub a pos) (sAugS i (fun i j => i - j) g f) (tAugS (tVar i) tb ta (rIxL W.K) (ipI fun i j => i - j) rSetL) :=
  let ⟨pb, sb⟩ := hb
  let ⟨pa, sa⟩ := he
  ⟨hK ▸ ps_augS (pe_var hN hv hd hcd) pb pget_list pa ip_sub set_list ha, sim_augS sb sa⟩
theorem es_expr (he : EvE W X e f ta) (hs : swapsWith e none pos.line X.env = pure false := by rfl) : EvS W X (.Expr e pos) (sDrop f) (tDrop ta) :=
  let ⟨pa, sa⟩ := he
  ⟨ps_expr pa hs, sim_drop sa⟩
theorem es_doc {i : Str} {j pos'} : EvS W X (.Expr (.Constant (.str i) j pos') pos) sSkip tNext := ⟨ps_doc, sim_skip⟩
theorem es_ret (he : EvE W X e f ta) : EvS W X (.Return (some e) pos) (sRet f) (tRet ta) :=
  let ⟨pa, sa⟩ := he
  ⟨ps_ret pa, sim_ret sa⟩
theorem es_retN : EvS W X (.Return none pos) (sRet (sCon .non)) tRetN := ⟨ps_retN, sim_retN⟩
theorem es_pass : EvS W X (.Pass pos) sSkip tNext := ⟨ps_pass, sim_skip⟩
theorem es_break : EvS W X (.Break pos) sBreak tBreak := ⟨ps_break, sim_break⟩
theorem es_continue : EvS W X (.Continue pos) sCont tCont := ⟨ps_continue, sim_cont⟩
theorem es_never : EvS W X st sNever tNever := ⟨ps_never, sim_never⟩
theorem es_if {t : Expr} {p q : List Stmt} (ht : EvT W X t s tp) (ha : EvB W X p sf tS) (hb : EvB W X q sg tU) : EvS W X (.If t p q pos) (sIf s sf sg) (tIfS tp tS tU) :=
  let ⟨pt, st⟩ := ht
  let ⟨pa, sa⟩ := ha
  let ⟨pb, sb⟩ := hb
  ⟨ps_if pt pa pb, sim_if st sa sb⟩
theorem es_while {t : Expr} {p : List Stmt} (hp : PassesOwn (model X.prog X.w) X.A X.env X.xe) (ht : EvT W X t s tp) (ha : EvB W X p sf tS) : EvS W X (.While t p [] pos) (sWhile s sf) (tWhile tp tS) :=
  let ⟨pt, st⟩ := ht
  let ⟨pa, sa⟩ := ha
  ⟨ps_while hp pt pa, sim_while st sa⟩
theorem es_for {tg iter : Expr} {p : List Stmt} {src : SI} {gf : STg} {ws : List Nat} (hp : PassesOwn (model X.prog X.w) X.A X.env X.xe) (hc : X.calm = true) (hi : EvI W X tg iter src tw) (hg : EvG W X ws tg gf tg0) (hb : EvB W X p sf tS) (hs : ∀ x, foldedSetIterable iter X.env x = pure x := by intro _; rfl) : EvS W X (.For tg iter p [] pos) (sFor src gf sf) (tFor tw tg0 tS) :=
  let ⟨pi, si⟩ := hi
  let ⟨pg, sg⟩ := hg
  let ⟨pb, sb⟩ := hb
  ⟨ps_for hp hc pi pg pb hs, sim_for si sg sb⟩
end
/-! ### a comprehension's parts, in its block -/
section
variable {W : Wd} {X : Cx} {pos : Pos}
abbrev Blk' (X : Cx) (scope : Scope) (P : Cx → Prop) : Prop := ∀ (s : Shared) (H : Hp) (C : Addr) (cl : List (Str × Addr)) (fp : List Addr), P (X.blk s H scope (compEnvC scope cl C X.env) fp)
theorem ev_lc {elt tg iter : Expr} {ifs : List Expr} {scope : Scope} {own : List (Str × Nat)} {src : SI} {gf : STg} {tf : SB} {f : SE} {wi : TI} {g : TG} {tt : TT} {te : TE} (ls es : List Nat) (hc : X.calm = true) (hN : X.N.Nodup) (hi : EvI W X tg iter src wi) (ok : BlkOk X.N X.env.scope scope own)
    (hg : ∀ (s : Shared) (H : Hp) (C : Addr) (cl : List (Str × Addr)) (fp : List Addr), EvG W (X.blk s H scope (compEnvC scope cl C X.env) fp) (own.map (·.2)) tg gf g) (ht : ∀ (s : Shared) (H : Hp) (C : Addr) (cl : List (Str × Addr)) (fp : List Addr), EvF W (X.blk s H scope (compEnvC scope cl C X.env) fp) ifs tf tt) (he : ∀ (s : Shared) (H : Hp) (C : Addr) (cl : List (Str × Addr)) (fp : List Addr), EvE W (X.blk s H scope (compEnvC scope cl C X.env) fp) elt f te) (hs : ∀ x, foldedSetIterable iter X.env x = pure x := by intro _; rfl) (hpin : (own.map (·.2)).all (fun i => !W.pin i) = true := by rfl) :
    EvE W X (.ListComp elt [⟨tg, iter, ifs, 0⟩] scope pos) (sLc ls es (own.map (·.2)) src gf tf f) (tLc wi g tt te (own.map (·.2))) :=
  ⟨pe_lc hc hN hi.1 ok (fun s H C cl fp => (hg s H C cl fp).1) (fun s H C cl fp => (ht s H C cl fp).1) (fun s H C cl fp => (he s H C cl fp).1) hs,
    sim_lc (fun i h => by simpa using List.all_eq_true.mp hpin i h) hi.2 (hg X.s_0 X.H_0 0 [] []).2 (ht X.s_0 X.H_0 0 [] []).2 (he X.s_0 X.H_0 0 [] []).2⟩
theorem es_setLc (i : Nat) {y : Str} {py spos : Pos} {elt tg iter : Expr} {ifs : List Expr} {scope : Scope} {own : List (Str × Nat)} {src : SI} {gf : STg} {tf : SB} {f : SE} {wi : TI} {g : TG} {tt : TT} {te : TE} (ls es : List Nat) (hc : X.calm = true) (hN : X.N.Nodup)
    (hsw : swapsWith (.ListComp elt [⟨tg, iter, ifs, 0⟩] scope pos) (some (.Name y py)) spos.line X.env = pure true) (hi : EvI W X tg iter src wi) (ok : BlkOk X.N X.env.scope scope own)
    (hg : ∀ (s : Shared) (H : Hp) (C : Addr) (cl : List (Str × Addr)) (fp : List Addr), EvG W (X.blk s H scope (compEnvC scope cl C X.env) fp) (own.map (·.2)) tg gf g) (ht : ∀ (s : Shared) (H : Hp) (C : Addr) (cl : List (Str × Addr)) (fp : List Addr), EvF W (X.blk s H scope (compEnvC scope cl C X.env) fp) ifs tf tt) (he : ∀ (s : Shared) (H : Hp) (C : Addr) (cl : List (Str × Addr)) (fp : List Addr), EvE W (X.blk s H scope (compEnvC scope cl C X.env) fp) elt f te) (hy : X.N[i]? = some y := by rfl) (hyl : X.env.scope.names.lookup y = some .local := by rfl) (hs : ∀ x, foldedSetIterable iter X.env x = pure x := by intro _; rfl) (hpin : (own.map (·.2)).all (fun i => !W.pin i) = true := by rfl) (hpin0 : W.pin i = false := by rfl) :
    EvS W X (.Assign [.Name y py] (.ListComp elt [⟨tg, iter, ifs, 0⟩] scope pos) spos) (sSet i (sLc ls es (own.map (·.2)) src gf tf f)) (tAsg (tLc wi g tt te (own.map (·.2))) (gName i)) :=
  ⟨ps_setLc hc hN hy hyl hsw hi.1 ok (fun s H C cl fp => (hg s H C cl fp).1) (fun s H C cl fp => (ht s H C cl fp).1) (fun s H C cl fp => (he s H C cl fp).1) hs,
    sim_set (sim_lc (fun i h => by simpa using List.all_eq_true.mp hpin i h) hi.2 (hg X.s_0 X.H_0 0 [] []).2 (ht X.s_0 X.H_0 0 [] []).2 (he X.s_0 X.H_0 0 [] []).2) hpin0⟩
end
/-! ### a def -/
section
variable {P : Program} {w : World} {K : PySem.W.Frag} {mg : Str → Option Value} {base : Heap} {c : Cl}
theorem ev_fn {x qual : Str} {st : Stmt} {f : Addr} {fd : FuncData} {N ps : List Str} {k np n : Nat} {b : SS} {m : List D → Option Val} (F : Fun K x qual st f fd) (S : FnScope N ps (defScope st)) (hp : ps.length = np) (hN : N.length = n) (hm : m = fnSem np n b)
    (hb : ∀ (cdv : Value) (A : Around) (outer : List PySem.Env) (s : Shared) (H : Hp) (E : XK), Room k (A.deeper (PyProof.Rows.envOfC qual (defScope st) s.heap.objs.size f cdv)) → ∃ t b', EvB (W0 K c) (cxOf CX0 P w K mg base N qual (defScope st) f cdv A outer s H E).nox (defBody st) b' t ∧ b' = b) :
    FnOk P w K mg base CX0 (k + 1) f fd ps (spPure (W0 K c) np m) := by
  subst hp hN hm
  refine F.ok S spPure_len (fun cdv A outer s H vs Q E hr hsp => ?_)
  obtain ⟨t, b', ⟨ht, hs⟩, rfl⟩ := hb cdv A outer s H E hr
  have hl : ps.length ≤ N.length := by
    have e := congrArg List.length S.pre
    rw [List.length_take] at e
    omega
  exact ⟨t, ht, body_ok hs hl hsp⟩
end
end Tr

/-! TrPath: what lies within an own thing is changed in place, at the end of a way. -/
namespace Tr
open PySem L2
inductive Pth where
  | base
  | ix (b : Pth) (g : SE)
def ixD : D → Int → Option (Nat × D)
  | .lst xs, k => (ixN xs.length k).bind fun j => (xs[j]?).map fun d => (j, d)
  | .tup xs, k => (ixN xs.length k).bind fun j => (xs[j]?).map fun d => (j, d)
  | _, _ => none
def pEv : Pth → D → Env → Option (List Pst × D × Env)
  | .base, d, ρ => some ([], d, ρ)
  | .ix b g, d, ρ =>
    match pEv b d ρ with
    | some (p, d1, ρ1) =>
      match g ρ1 with
      | some (⟨_, .int k⟩, ρ2) =>
        match ixD d1 k with
        | some (j, d2) => some (p ++ [.ix j], d2, restore ρ1 ρ2)
        | none => none
      | _ => none
    | none => none
/-- within slot j's thing, from the value that slot i has -/
def SimR (W : Wd) (j i : Nat) (tb : TE) (pe : Pth) : Prop :=
  ∀ (ρ : Env) (σ : L2.St) (H F G : Hp) (As : Nat → List Addr) (d d0 : D) (v w0 : V) (p0 pth : List Pst) (d1 : D) (ρ' : Env) (Q : VK), Sta W ρ σ H F G As → ρ[j]? = some (some ⟨.O, true, d⟩) → σ[i]? = some (some w0) → Foc W H F (As j) d v p0 w0 d0 → pEv pe d0 ρ = some (pth, d1, ρ') →
    (∀ w H' G' As', Post W ρ σ H F G As ρ' H' G' As' → Foc W H' F (As' j) d v (p0 ++ pth) w d1 → Q w H') → tb σ H Q
def SimP (W : Wd) (i : Nat) (tb : TE) (pe : Pth) : Prop := SimR W i i tb pe
section
variable {W : Wd} {ρ ρ' ρ1 ρ2 : Env} {σ σ' σ1 σ2 : L2.St} {H F G H' F' G' H1 F1 G1 H2 F2 G2 : Hp} {As As' As1 As2 : Nat → List Addr} {B : List Addr}
theorem simR_base (j i : Nat) : SimR W j i (tVar i) .base := by
  intro ρ σ H F G As d d0 v w0 p0 pth d1 ρ' Q S hs hw foc e k
  simp only [pEv, Option.some.injEq, Prod.mk.injEq] at e
  obtain ⟨rfl, rfl, rfl⟩ := e
  exact ⟨w0, hw, k w0 H G As (Post.refl S) (by rw [List.append_nil]; exact foc)⟩
theorem simP_base (i : Nat) : SimP W i (tVar i) .base := simR_base i i
theorem Foc.post {i : Nat} {d d1 : D} {v w : V} {pth : List Pst} (S : Sta W ρ σ H F G As) (hs : ρ[i]? = some (some ⟨.O, true, d⟩)) (p : Post W ρ σ H F G As ρ' H' G' As') (h : Foc W H F (As i) d v pth w d1) : Foc W H' F (As' i) d v pth w d1 := by
  have ea := (p.lk i _ hs rfl).2
  rw [ea]
  refine h.mono (fun a ha o e => p.keep a o e fun ⟨j, s, e1, e2, e3⟩ => ?_) (p.tups S)
  have := S.dj j i a e3 ha
  subst this
  rw [hs] at e1
  cases e1
  cases e2
theorem simR_ix {j i : Nat} {tb tg : TE} {pe : Pth} {g : SE} (hb : SimR W j i tb pe) (hg : SimE W tg g) : SimR W j i (tOp (rIx W.K) tb tg) (.ix pe g) := by
  intro ρ σ H F G As d d0' v w0 p0' pth d1 ρ' Q S hs hw foc0 e k
  unfold pEv at e
  split at e
  case h_2 => cases e
  rename_i p0 d0 ρ1 e1
  split at e
  case h_2 => cases e
  rename_i mk kk ρ2 e2
  split at e
  case h_2 => cases e
  rename_i jx d2 e3
  simp only [Option.some.injEq, Prod.mk.injEq] at e
  obtain ⟨rfl, rfl, rfl⟩ := e
  refine hb ρ σ H F G As d _ v _ _ _ _ _ _ S hs hw foc0 e1 fun w H1 G1 As1 p1 foc => ?_
  refine hg ρ1 σ H1 F G1 As1 _ _ _ p1.st e2 fun x H2 G2 As2 B2 p2 rep t org => ?_
  have ex : x = .int kk := by cases rep; rfl
  subst ex
  have hs1 := (p1.lk _ _ hs rfl).1
  have foc2 := foc.post p1.st hs1 p2
  have p3 := p2.restore p1.st
  have pp := p1.trans S p3
  cases d0 with
  | lst xs =>
    simp only [ixD] at e3
    cases ej : ixN xs.length kk with
    | none => rw [ej] at e3; cases e3
    | some jj =>
      rw [ej] at e3
      simp only [Option.bind_some] at e3
      cases ex : xs[jj]? with
      | none => rw [ex] at e3; cases e3
      | some dj =>
        rw [ex] at e3
        simp only [Option.map_some, Option.some.injEq, Prod.mk.injEq] at e3
        obtain ⟨rfl, rfl⟩ := e3
        obtain ⟨l, vs, rfl, hl, hz, f⟩ := foc2.lst
        obtain ⟨u, eu, fu⟩ := f _ _ ex
        exact .inl ⟨l, vs, kk, u, rfl, rfl, SqL.of hl, atI_of (by rw [hz]; exact ej) eu, k u H2 _ _ pp (by rw [← List.append_assoc]; exact fu)⟩
  | tup xs =>
    simp only [ixD] at e3
    cases ej : ixN xs.length kk with
    | none => rw [ej] at e3; cases e3
    | some jj =>
      rw [ej] at e3
      simp only [Option.bind_some] at e3
      cases ex : xs[jj]? with
      | none => rw [ex] at e3; cases e3
      | some dj =>
        rw [ex] at e3
        simp only [Option.map_some, Option.some.injEq, Prod.mk.injEq] at e3
        obtain ⟨rfl, rfl⟩ := e3
        obtain ⟨l, vs, rfl, hl, hz, f⟩ := foc2.tup
        obtain ⟨u, eu, fu⟩ := f _ _ ex
        exact .inr (.inl ⟨l, vs, kk, u, rfl, rfl, hl, atI_of (by rw [hz]; exact ej) eu, k u H2 _ _ pp (by rw [← List.append_assoc]; exact fu)⟩)
  | _ => cases e3
theorem simP_ix {i : Nat} {tb tg : TE} {pe : Pth} {g : SE} (hb : SimP W i tb pe) (hg : SimE W tg g) : SimP W i (tOp (rIx W.K) tb tg) (.ix pe g) := simR_ix hb hg
/-- an own slot is locked -/
theorem lock_post {i : Nat} {d : D} (S : Sta W ρ σ H F G As) (hs : ρ[i]? = some (some ⟨.O, false, d⟩)) (hd : d.flat = false) :
    ∃ G' As', Post W ρ σ H F G As (ρ.set i (some ⟨.O, true, d⟩)) H G' As' := by
  have e : sVar i ρ = some (⟨.F, d⟩, ρ.set i (some ⟨.O, true, d⟩)) := by
    unfold sVar
    rw [hs]
    simp [hd]
  obtain ⟨v, _, q⟩ := sim_var (W := W) i ρ σ H F G As _ _ (fun v H' => H' = H → ∃ G' As', Post W ρ σ H F G As (ρ.set i (some ⟨.O, true, d⟩)) H G' As') S e fun v H' G' As' B p _ _ _ h => by
    subst h
    exact ⟨G', As', p⟩
  exact q rfl
theorem path_end {i : Nat} {d : D} {v w : V} {pth : List Pst} {xs : List D} (S : Sta W ρ σ H F F As) (n : NoLk ρ) (hs : ρ[i]? = some (some ⟨.O, false, d⟩)) (p : Post W ρ σ H F F As ρ2 H2 G2 As2) (h2 : ρ2[i]? = some (some ⟨.O, true, d⟩)) (hv : σ[i]? = some (some v))
    (foc : Foc W H2 F (As2 i) d v pth w (.lst xs)) (t : Tmp W σ H2 G2 As2 B) :
    Step W [] ρ σ H F As (restore ρ ρ2) σ H2 F As2 ∧ ∃ l vs A1, w = .ref l ∧ H2 l = some (.lst vs) ∧ Reps W H2 F .O xs vs A1 ∧ A1.Nodup ∧ (∀ a ∈ A1, a ∉ B) ∧
      ∀ (ys : List D) (us : List V) (C : List Addr), Reps W H2 F .O ys us C → C.Nodup → (∀ a ∈ C, a ∈ A1 ∨ a ∈ B) →
        ∃ As3, Step W B (restore ρ ρ2) σ H2 F As2 ((restore ρ ρ2).set i (some ⟨.O, false, d.put pth (.lst ys)⟩)) σ (upd H2 l (.lst us)) F As3 := by
  have p' := p.restore S
  have nl := restore_nolk S n p
  have q := test_step (b := true) S n p' nl
  have t' : Tmp W σ H2 F As2 B := t.back p.gg
  obtain ⟨A0, A1, A2, h1, hA, h3, h4⟩ := foc
  have hs' : (restore ρ ρ2)[i]? = some (some ⟨.O, false, d⟩) := by
    rw [restore_get _ _ (S.len.trans p.st.len.symm), hs, h2]
    rfl
  cases h3 with
  | lstO hl r =>
    rename_i l vs B1
    have nd := q.st.nd i
    have li : l ∈ As2 i := by rw [hA]; simp
    have nd2 := nd
    rw [hA] at nd2
    have n0 := List.nodup_append.mp nd2
    have n1 := List.nodup_append.mp n0.2.1
    have n2 := List.nodup_cons.mp n1.1
    have dB : ∀ a ∈ B, a ∉ As2 i := fun a ha => t'.a a ha i
    refine ⟨q, l, vs, B1, rfl, hl, r, n2.2, fun a ha hb => dB a hb (by rw [hA]; simp [ha]), fun ys us C rC nC sub => ?_⟩
    have hlC : l ∉ C := fun z => by
      rcases sub l z with y | y
      · exact n2.1 y
      · exact dB l y li
    have r2 := upd_reps (o := .lst us) q.st nl hs' li rC hlC
    have r3 := Rep.lstO (a := l) (upd_same (H := H2) (o := .lst us)) r2
    have kp : Kp W H2 (upd H2 l (.lst us)) (A0 ++ A2) := ⟨q.st.tup fun a o e z => by rw [upd_ne (fun y : a = l => z ⟨i, _, hs', rfl, y ▸ li⟩)]; exact e, fun a ha o e => by
      rw [upd_ne]
      · exact e
      · rintro rfl
        rcases List.mem_append.mp ha with z | z
        · exact n0.2.2 a z a (by simp) rfl
        · exact n1.2.2 a (by simp) a z rfl⟩
    have r4 := h4 _ _ _ r3 kp
    refine ⟨_, upd_ok q.st nl t' hs' hv li hl r4 ?_ fun a ha => ?_⟩
    · refine List.nodup_append.mpr ⟨n0.1, List.nodup_append.mpr ⟨List.nodup_cons.mpr ⟨hlC, nC⟩, n1.2.1, fun a ha b hb z => ?_⟩, fun a ha b hb z => ?_⟩
      · subst z
        rcases List.mem_cons.mp ha with rfl | y
        · exact n1.2.2 a (by simp) a hb rfl
        · rcases sub a y with y | y
          · exact n1.2.2 a (by simp [y]) a hb rfl
          · exact dB a y (by rw [hA]; simp [hb])
      · subst z
        rcases List.mem_append.mp hb with y | y
        · rcases List.mem_cons.mp y with rfl | y
          · exact n0.2.2 a ha a (by simp) rfl
          · rcases sub a y with y | y
            · exact n0.2.2 a ha a (by simp [y]) rfl
            · exact dB a y (by rw [hA]; simp [ha])
        · exact n0.2.2 a ha a (by simp [y]) rfl
    · rcases List.mem_append.mp ha with y | y
      · exact .inl (by rw [hA]; simp [y])
      · rcases List.mem_append.mp y with y | y
        · rcases List.mem_cons.mp y with rfl | y
          · exact .inl li
          · rcases sub a y with y | y
            · exact .inl (by rw [hA]; simp [y])
            · exact .inr y
        · exact .inl (by rw [hA]; simp [y])
/-- base[..].append(e) -/
noncomputable def sApndP (i : Nat) (pe : Pth) (f : SE) : SS := fun ρ =>
  match ρ[i]? with
  | some (some ⟨.O, false, d⟩) =>
    if d.flat then none else
    match pEv pe d (ρ.set i (some ⟨.O, true, d⟩)) with
    | some (p, .lst xs, ρ1) =>
      match f ρ1 with
      | some (r, ρ2) => if r.m = .O ∧ ok (xs.length < sizeLine) = true then some (.nx ((restore ρ ρ2).set i (some ⟨.O, false, d.put p (.lst (xs ++ [r.d]))⟩))) else none
      | none => none
    | _ => none
  | _ => none
theorem get_set_same {i : Nat} {x y : Option Slot} (h : ρ[i]? = some x) : (ρ.set i y)[i]? = some y := by
  have := lt_of_get h
  simp [this]
theorem sim_apndP {i : Nat} {tb te : TE} {pe : Pth} {f : SE} (hb : SimP W i tb pe) (hf : SimE W te f) : SimS W (tDrop (tBM W.K "list" rAppend tb (tCons te tNil))) (sApndP i pe f) := by
  intro ρ σ H F As D out S n e k
  unfold sApndP at e
  split at e
  case h_2 => cases e
  rename_i d hs
  split at e
  · cases e
  rename_i hd
  split at e
  case h_2 => cases e
  rename_i pth xs ρ1 e1
  split at e
  case h_2 => cases e
  rename_i r ρ2 e2
  split at e
  case isFalse => cases e
  rename_i hc
  cases e
  obtain ⟨G0, As0, p0⟩ := lock_post S hs (by simpa using hd)
  have hs0 := get_set_same (y := some ⟨.O, true, d⟩) hs
  obtain ⟨v, hv, rv⟩ := p0.st.slot i _ hs0
  refine hb _ σ H F G0 As0 d d v v [] _ _ _ _ p0.st hs0 hv (Foc.base rv) e1 fun w H1 G1 As1 p1 foc => ?_
  rw [List.nil_append] at foc
  obtain ⟨l0, vs0, rfl, hl0, _, _⟩ := foc.lst
  refine ⟨.inl ⟨rfl, _, SqL.of hl0⟩, ?_⟩
  refine hf ρ1 σ H1 F G1 As1 _ _ _ p1.st e2 fun x H2 G2 As2 B p2 rep t org => ?_
  have hs1 := (p1.lk i _ hs0 rfl).1
  have hs2 := (p2.lk i _ hs1 rfl).1
  have foc2 := foc.post p1.st hs1 p2
  have pp := p0.trans S (p1.trans p0.st p2)
  obtain ⟨q, l, vs, A1, hw, hl, rr, nA, dA, fin⟩ := path_end S n hs pp hs2 hv foc2 t
  cases hw
  have rep2 : Rep W H2 F .O r.d x B := by rw [hc.1] at rep; exact rep.anyG rfl
  have rC := reps_append (m := .O) rr (.cons rep2 (.nil _))
  obtain ⟨As3, st⟩ := fin _ _ _ rC (by
    rw [List.append_nil]
    exact List.nodup_append.mpr ⟨nA, t.nd, fun a ha b hb z => dA a ha (z ▸ hb)⟩) (fun a ha => by simpa using ha)
  refine ⟨l0, vs, x, rfl, rfl, hl, by rw [← rr.len]; exact of_ok hc.2, k _ _ _ _ (q.trans st fun b hb => ?_)⟩
  rcases org b hb with y | ⟨j, y⟩
  · exact .inl (p0.dom _ (p1.dom _ y))
  · rcases p1.an j b y with ⟨j', y⟩ | y
    · rcases p0.an j' b y with y | y
      · exact .inr y
      · exact .inl y
    · exact .inl (p0.dom _ y)
/-- base[..][k] as a target -/
noncomputable def sGSubP (i : Nat) (pe : Pth) (g : SE) : STg := fun r ρ =>
  match ρ[i]? with
  | some (some ⟨.O, false, d⟩) =>
    if d.flat then none else
    match pEv pe d (ρ.set i (some ⟨.O, true, d⟩)) with
    | some (p, .lst xs, ρ1) =>
      match g ρ1 with
      | some (⟨_, .int k⟩, ρ2) =>
        match ixN xs.length k with
        | some j => if r.m = .O then some ((restore ρ ρ2).set i (some ⟨.O, false, d.put p (.lst (xs.set j r.d))⟩)) else none
        | none => none
      | _ => none
    | _ => none
  | _ => none
theorem sim_gsubP {i : Nat} {tb ti : TE} {pe : Pth} {g : SE} {ws : List Nat} (hb : SimP W i tb pe) (hg : SimE W ti g) : SimG W ws (gSub tb ti rSetL) (sGSubP i pe g) := by
  intro ρ σ H F As r v B ρ' Q S n rep t e k
  unfold sGSubP at e
  split at e
  case h_2 => cases e
  rename_i d hs
  split at e
  · cases e
  rename_i hd
  split at e
  case h_2 => cases e
  rename_i pth xs ρ1 e1
  split at e
  case h_2 => cases e
  rename_i mk kk ρ2 e2
  split at e
  case h_2 => cases e
  rename_i j hj
  split at e
  case isFalse => cases e
  rename_i hm
  cases e
  obtain ⟨G0, As0, p0⟩ := lock_post S hs (by simpa using hd)
  have hs0 := get_set_same (y := some ⟨.O, true, d⟩) hs
  obtain ⟨v0, hv, rv⟩ := p0.st.slot i _ hs0
  refine hb _ σ H F G0 As0 d d v0 v0 [] _ _ _ _ p0.st hs0 hv (Foc.base rv) e1 fun w H1 G1 As1 p1 foc => ?_
  rw [List.nil_append] at foc
  refine hg ρ1 σ H1 F G1 As1 _ _ _ p1.st e2 fun x H2 G2 As2 B2 p2 rx tx org => ?_
  have ex : x = .int kk := by cases rx; rfl
  subst ex
  have hs1 := (p1.lk i _ hs0 rfl).1
  have hs2 := (p2.lk i _ hs1 rfl).1
  have foc2 := foc.post p1.st hs1 p2
  have pp := p0.trans S (p1.trans p0.st p2)
  obtain ⟨t2, kb⟩ := pp.tmp S t
  obtain ⟨q, l, vs, A1, rfl, hl, rr, nA, dA, fin⟩ := path_end S n hs pp hs2 hv foc2 t2
  have rep2 : Rep W H2 F .O r.d v B := by rw [hm] at rep; exact rep.mono (pp.tups S) (Same.refl _) kb
  have hjx : j < xs.length := (ixN_seq hj).2.1
  obtain ⟨C, r1, n1, s1⟩ := reps_set rep2 t.nd rr hjx nA dA
  obtain ⟨As3, st⟩ := fin _ _ _ r1 n1 s1
  exact ⟨l, vs, kk, j, rfl, rfl, hl, by rw [← rr.len]; exact hj, k _ _ _ _ (q.transB st) fun _ _ => rfl⟩
/-- base[..][k] op= e, of ints -/
noncomputable def sAugP (i : Nat) (pe : Pth) (op : Int → Int → Int) (g f : SE) : SS := fun ρ =>
  match ρ[i]? with
  | some (some ⟨.O, false, d⟩) =>
    if d.flat then none else
    match pEv pe d (ρ.set i (some ⟨.O, true, d⟩)) with
    | some (p, .lst xs, ρ1) =>
      match g ρ1 with
      | some (⟨_, .int k⟩, ρ2) =>
        match ixN xs.length k with
        | some j =>
          match xs[j]?, f (restore ρ1 ρ2) with
          | some (.int old), some (⟨_, .int y⟩, ρ3) => some (.nx ((restore ρ ρ3).set i (some ⟨.O, false, d.put p (.lst (xs.set j (.int (op old y))))⟩)))
          | _, _ => none
        | none => none
      | _ => none
    | _ => none
  | _ => none
theorem sim_augP {i : Nat} {op : Int → Int → Int} {tb ti te : TE} {pe : Pth} {g f : SE} (hb : SimP W i tb pe) (hg : SimE W ti g) (hf : SimE W te f) : SimS W (tAugS tb ti te (rIxL W.K) (ipI op) rSetL) (sAugP i pe op g f) := by
  intro ρ σ H F As D out S n e k
  unfold sAugP at e
  split at e
  case h_2 => cases e
  rename_i d hs
  split at e
  · cases e
  rename_i hd
  split at e
  case h_2 => cases e
  rename_i pth xs ρ1 e1
  split at e
  case h_2 => cases e
  rename_i mk kk ρ2 e2
  split at e
  case h_2 => cases e
  rename_i j hj
  split at e
  case h_2 => cases e
  rename_i old my y ρ3 eo e3
  cases e
  obtain ⟨G0, As0, p0⟩ := lock_post S hs (by simpa using hd)
  have hs0 := get_set_same (y := some ⟨.O, true, d⟩) hs
  obtain ⟨v0, hv, rv⟩ := p0.st.slot i _ hs0
  refine hb _ σ H F G0 As0 d d v0 v0 [] _ _ _ _ p0.st hs0 hv (Foc.base rv) e1 fun w H1 G1 As1 p1 foc => ?_
  rw [List.nil_append] at foc
  refine hg ρ1 σ H1 F G1 As1 _ _ _ p1.st e2 fun x H2 G2 As2 B2 p2 rx tx org => ?_
  have ex : x = .int kk := by cases rx; rfl
  subst ex
  have hs1 := (p1.lk i _ hs0 rfl).1
  have p2' := p2.restore p1.st
  have hs2 := (p2'.lk i _ hs1 rfl).1
  have foc2 := foc.post p1.st hs1 p2'
  obtain ⟨l, vs, rfl, hl, hz, fk⟩ := foc2.lst
  obtain ⟨u, eu, fu⟩ := fk _ _ eo
  have eu2 : u = .int old := by
    obtain ⟨_, _, _, _, _, r, _⟩ := fu
    cases r; rfl
  subst eu2
  refine ⟨l, vs, kk, _, rfl, rfl, SqL.of hl, atI_of (by rw [hz]; exact hj) eu, ?_⟩
  refine hf _ σ H2 F G1 As2 _ _ _ p2'.st e3 fun z H3 G3 As3 B3 p3 rz tz orgz => ?_
  have ez : z = .int y := by cases rz; rfl
  subst ez
  refine ⟨old, y, rfl, rfl, ?_⟩
  have hs3 := (p3.lk i _ hs2 rfl).1
  have foc3 := foc2.post p2'.st hs2 p3
  have pp := p0.trans S (p1.trans p0.st (p2'.trans p1.st p3))
  obtain ⟨q, l', vs', A1, hw, hl', rr, nA, dA, fin⟩ := path_end (B := []) S n hs pp hs3 hv foc3 tmp_nil
  cases hw
  have hjx : j < xs.length := (ixN_seq hj).2.1
  obtain ⟨C, r1, n1, s1⟩ := reps_set (Rep.int (W := W) (H := H3) (G := F) .O (op old y)) List.nodup_nil rr hjx nA (fun _ _ z => nomatch z)
  obtain ⟨As4, st⟩ := fin _ _ _ r1 n1 s1
  exact ⟨l, vs', kk, j, rfl, rfl, hl', by rw [← rr.len]; exact hj, k _ _ _ _ (q.trans st fun _ z => nomatch z)⟩
end
end Tr

/-! TrFor: pop; a walk whose items are changed in place. -/
namespace Tr
open PySem L2
section
variable {W : Wd} {ρ ρ' ρ1 ρ2 : Env} {σ σ' σ1 σ2 : L2.St} {H F G H' F' G' H1 F1 G1 H2 F2 G2 : Hp} {As As' As1 As2 : Nat → List Addr} {B : List Addr}
/-! ### xs.pop() -/
def sPop (i : Nat) : SE := fun ρ =>
  match ρ[i]? with
  | some (some ⟨m, false, .lst xs⟩) =>
    match m, xs.getLast? with
    | .O, some d => some (⟨.O, d⟩, ρ.set i (some ⟨.O, false, .lst xs.dropLast⟩))
    | .S, some d => some (nrm .F d, ρ.set i (some ⟨.S, false, .lst xs.dropLast⟩))
    | _, _ => none
  | _ => none
theorem reps_last {m : Mode} : ∀ {ds : List D} {vs : List V} {A : List Addr} {d : D}, Reps W H F m (ds ++ [d]) vs A → ∃ us u A1 A2, vs = us ++ [u] ∧ A = A1 ++ A2 ∧ Reps W H F m ds us A1 ∧ Rep W H F m d u A2
  | [], _, _, d, .cons (A := A) (B := B) h r => by
    cases r with
    | nil => exact ⟨[], _, [], A, rfl, by simp, .nil _, h⟩
  | x :: ds, _, _, d, .cons (v := v) (A := A) (B := B) h r => by
    obtain ⟨us, u, A1, A2, rfl, rfl, r1, r2⟩ := reps_last (ds := ds) r
    exact ⟨v :: us, u, A ++ A1, A2, rfl, by simp, .cons h r1, r2⟩
theorem sim_pop (i : Nat) : SimE W (tBM0 W.K "list" rPop (tVar i)) (sPop i) := by
  intro ρ σ H F G As r ρ' Q S e k
  unfold sPop at e
  split at e
  case h_2 => cases e
  rename_i m xs hs
  have go : ∀ (d : D) (ys : List D) (r' : Val), xs = ys ++ [d] → m ≠ .F → r = r' → ρ' = ρ.set i (some ⟨m, false, .lst ys⟩) → r' = (if m = .O then (⟨.O, d⟩ : Val) else nrm .F d) → tBM0 W.K "list" rPop (tVar i) σ H Q := by
    rintro d ys _ rfl hm rfl rfl hr
    have li : ∃ l vs A, σ[i]? = some (some (.ref l)) ∧ H l = some (.lst vs) ∧ As i = l :: A ∧ Reps W H F (kidL m) (ys ++ [d]) vs A := own_list S hs hm
    obtain ⟨l, vs, A, hv, hl, hA, rs⟩ := li
    obtain ⟨us, u, A1, A2, rfl, rfl, r1, r2⟩ := reps_last rs
    have hi : i < ρ.length := lt_of_get hs
    have lin : l ∈ As i := by rw [hA]; simp
    have hlu : Unl ρ As l := ⟨i, _, hs, rfl, lin⟩
    have nd := S.nd i
    rw [hA] at nd
    have nd1 := List.nodup_cons.mp nd
    have nd2 := List.nodup_append.mp nd1.2
    have other : ∀ a o, H a = some o → a ≠ l → upd H l (.lst us) a = some o := fun a o e q => by rw [upd_ne q]; exact e
    have tups : ∀ a vs, SqT W.K H a vs → SqT W.K (upd H l (.lst us)) a vs := S.tup fun a o e q => other a o e fun z => q (z ▸ hlu)
    have get : ∀ (j : Nat) (u : Slot), (ρ.set i (some ⟨m, false, .lst ys⟩))[j]? = some (some u) → (j = i ∧ u = ⟨m, false, .lst ys⟩) ∨ (j ≠ i ∧ ρ[j]? = some (some u)) := fun j u h => by
      rw [get_set] at h
      split at h
      · rename_i q
        cases h
        exact .inl ⟨q.1, rfl⟩
      · rename_i q
        by_cases z : j = i
        · exact absurd ⟨z, hi⟩ q
        · exact .inr ⟨z, h⟩
    have sb : ∀ j a, a ∈ (fun j => if j = i then l :: A1 else As j) j → (j = i ∧ a ∈ l :: A1) ∨ (j ≠ i ∧ a ∈ As j) := fun j a h => by
      by_cases q : j = i
      · simp only [if_pos q] at h; exact .inl ⟨q, h⟩
      · simp only [if_neg q] at h; exact .inr ⟨q, h⟩
    have sub : ∀ a, a ∈ l :: A1 → a ∈ As i := fun a h => by
      rw [hA]
      rcases List.mem_cons.mp h with rfl | h
      · simp
      · simp [h]
    have sbA : ∀ j a, a ∈ (fun j => if j = i then l :: A1 else As j) j → a ∈ As j := fun j a h => by
      rcases sb j a h with ⟨rfl, q⟩ | ⟨_, q⟩
      · exact sub a q
      · exact q
    have gl : G l = none := S.free i _ hs rfl l lin
    have rr1 : Reps W (upd H l (.lst us)) F (kidL m) ys us A1 := r1.mono tups (Same.refl _) fun a ha o e => other a o e fun z => nd1.1 (by rw [← z]; simp [ha])
    have rr2 : Rep W (upd H l (.lst us)) F (kidL m) d u A2 := r2.mono tups (Same.refl _) fun a ha o e => other a o e fun z => nd1.1 (by rw [← z]; simp [ha])
    have gh : Same G (upd H l (.lst us)) := fun a o e => other a o (S.gh a o e) fun z => by rw [z, gl] at e; cases e
    refine ⟨_, hv, .inl ⟨rfl, _, SqL.of hl⟩, l, us ++ [u], u, rfl, rfl, hl, by simp, ?_⟩
    rw [List.dropLast_concat]
    refine k u _ G (fun j => if j = i then l :: A1 else As j) A2 ⟨⟨?_, fun j s h => ?_, fun j s h q a ha => ?_, fun j s h q a ha => ?_, fun j h => ?_, fun j => ?_, fun j1 j2 a h1 h2 => S.dj j1 j2 a (sbA _ _ h1) (sbA _ _ h2), fun j a h => S.fo j a (sbA _ _ h), S.fg, gh⟩, fun a o e n => other a o e fun z => n (z ▸ hlu), fun a e => ?_, Same.refl _, fun _ e q => absurd e q, fun j a h => .inl ⟨j, sbA _ _ h⟩, fun a ⟨j, s, h1, h2, h3⟩ => .inl ?_, fun j s h q => ?_, fun j h => ?_⟩ ?_ ⟨nd2.2.1, fun b hb => S.free i _ hs rfl b (by rw [hA]; simp [hb]), fun b hb => ?_, fun b hb j z => ?_⟩ fun b hb => .inr ⟨i, by rw [hA]; simp [hb]⟩
    · rw [List.length_set]; exact S.len
    · rcases get j s h with ⟨rfl, rfl⟩ | ⟨q, e⟩
      · refine ⟨_, hv, ?_⟩
        simp only [if_pos]
        cases m with
        | F => exact absurd rfl hm
        | S =>
          have := rr1.Fnil rfl
          subst this
          exact .lstS upd_same rr1
        | O => exact .lstO upd_same rr1
      · obtain ⟨x, hx, r⟩ := S.slot j s e
        refine ⟨x, hx, ?_⟩
        simp only [if_neg q]
        exact r.mono tups (Same.refl _) fun a ha o e => other a o e fun z => q (S.dj j i a ha (z ▸ lin))
    · rcases get j s h with ⟨rfl, rfl⟩ | ⟨z, e⟩
      · cases q
      · simp only [if_neg z] at ha
        have hal : a ≠ l := fun y => z (S.dj j i a ha (y ▸ lin))
        rw [upd_ne hal]
        exact S.lock j s e q a ha
    · rcases get j s h with ⟨rfl, rfl⟩ | ⟨z, e⟩
      · exact S.free j _ hs rfl a (sbA _ _ ha)
      · exact S.free j s e q a (sbA _ _ ha)
    · have q : j ≠ i := fun z => h ⟨m, false, .lst ys⟩ (by rw [z, List.getElem?_set_self hi])
      simp only [if_neg q]
      exact S.none j fun u z => h u (by rw [List.getElem?_set_ne (Ne.symm q)]; exact z)
    · by_cases q : j = i
      · simp only [if_pos q]
        exact List.nodup_cons.mpr ⟨fun z => nd1.1 (by simp [z]), nd2.1⟩
      · simp only [if_neg q]; exact S.nd j
    · by_cases z : a = l
      · rw [z, upd_same] at e; cases e
      · rw [upd_ne z] at e; exact e
    · rcases get j s h1 with ⟨rfl, rfl⟩ | ⟨z, e⟩
      · exact ⟨j, _, hs, rfl, sbA _ _ h3⟩
      · exact ⟨j, s, e, h2, sbA _ _ h3⟩
    · have z : j ≠ i := fun z => by rw [z, hs] at h; cases h; cases q
      exact ⟨by rw [List.getElem?_set_ne (Ne.symm z)]; exact h, by simp only [if_neg z]⟩
    · have z : j ≠ i := fun z => by rw [z, hs] at h; cases h
      rw [List.getElem?_set_ne (Ne.symm z)]; exact h
    · cases m with
      | F => exact absurd rfl hm
      | S =>
        have := rr2.Fnil rfl
        subst this
        rw [hr]
        simp only [if_neg (by decide : ¬ Mode.S = Mode.O)]
        exact (rr2.mono (fun _ _ z => z) S.fg fun _ z => nomatch z).nrm
      | O =>
        rw [hr]
        simp only [if_pos]
        exact rr2.anyG rfl
    · rw [upd_ne (fun z : b = l => nd1.1 (by rw [← z]; simp [hb]))]
      obtain ⟨o, e, _⟩ := r2.own b hb
      rw [e]; exact fun q => nomatch q
    · rcases sb j b z with ⟨rfl, q⟩ | ⟨q, z⟩
      · rcases List.mem_cons.mp q with rfl | q
        · exact nd1.1 (by simp [hb])
        · exact nd2.2.2 b q b hb rfl
      · exact q (S.dj j i b z (by rw [hA]; simp [hb]))
  have last : ∀ d, xs.getLast? = some d → xs = xs.dropLast ++ [d] := fun d h => by
    obtain ⟨ys, rfl⟩ := List.getLast?_eq_some_iff.mp h
    simp
  split at e
  · rename_i d hd
    cases e
    exact go d _ _ (last d hd) (by decide) rfl rfl rfl
  · rename_i d hd
    cases e
    exact go d _ _ (last d hd) (by decide) rfl rfl rfl
  · cases e
/-! ### for x in xs: x[..].append(e) -/
theorem forget_step (i : Nat) (S : Sta W ρ σ H F F As) (n : NoLk ρ) : Step W [] ρ σ H F As (ρ.set i none) σ H F (fun j => if j = i then [] else As j) := by
  have get : ∀ (j : Nat) (u : Slot), (ρ.set i none)[j]? = some (some u) → j ≠ i ∧ ρ[j]? = some (some u) := fun j u h => by
    rw [get_set] at h
    split at h
    · cases h
    · rename_i q
      by_cases z : j = i
      · subst z
        have := lt_of_get h
        exact absurd ⟨rfl, this⟩ q
      · exact ⟨z, h⟩
  have sb : ∀ j a, a ∈ (fun j => if j = i then [] else As j) j → j ≠ i ∧ a ∈ As j := fun j a h => by
    by_cases q : j = i
    · simp [q] at h
    · simp only [if_neg q] at h; exact ⟨q, h⟩
  have nl : NoLk (ρ.set i none) := fun j u h => n j u (get j u h).2
  refine ⟨⟨by rw [List.length_set]; exact S.len, fun j s h => ?_, fun j s h q => ?_, fun j s h q a ha => S.free j s (get j s h).2 q a (sb j a ha).2, fun j h => ?_, fun j => ?_, fun j1 j2 a h1 h2 => S.dj j1 j2 a (sb _ _ h1).2 (sb _ _ h2).2, fun j a h => S.fo j a (sb _ _ h).2, S.fg, S.gh⟩, nl, fun _ _ e _ _ => e, fun _ e => e, Same.refl _, fun _ e q => absurd e q, fun j a h => .inr (.inl ⟨j, (sb _ _ h).2⟩), fun _ _ h => h, rfl, fun _ _ => rfl⟩
  · obtain ⟨q, e⟩ := get j s h
    obtain ⟨v, hv, r⟩ := S.slot j s e
    exact ⟨v, hv, by simp only [if_neg q]; exact r⟩
  · rw [nl j s h] at q; cases q
  · by_cases q : j = i
    · simp [q]
    · simp only [if_neg q]
      exact S.none j fun u z => h u (by rw [List.getElem?_set_ne (Ne.symm q)]; exact z)
  · by_cases q : j = i
    · simp [q]
    · simp only [if_neg q]; exact S.nd j
theorem fill_step {i : Nat} {x : V} (hp : W.pin i = false) (S : Sta W ρ σ H F F As) (n : NoLk ρ) (h : ∀ s, ρ[i]? ≠ some (some s)) : Step W [] ρ σ H F As ρ (σ.set i (some x)) H F As :=
  ⟨⟨by rw [List.length_set]; exact S.len, fun j s e => by
      obtain ⟨v, hv, r⟩ := S.slot j s e
      refine ⟨v, ?_, r⟩
      rw [List.getElem?_set_ne]
      · exact hv
      · rintro rfl
        exact h s e, S.lock, S.free, S.none, S.nd, S.dj, S.fo, S.fg, S.gh⟩, n, fun _ _ e _ _ => e, fun _ e => e, Same.refl _, fun _ e q => absurd e q, fun j a h => .inr (.inl ⟨j, h⟩), fun _ _ h => h, by rw [List.length_set], fun j hj => by
    rw [List.getElem?_set_ne]
    rintro rfl
    rw [hp] at hj
    cases hj⟩
noncomputable def sAppAt (j k : Nat) (pe : Pth) (f : SE) (ρ : Env) : Option Env :=
  match ρ[j]? with
  | some (some ⟨.O, false, .lst ds⟩) =>
    match ds[k]? with
    | some dk =>
      match pEv pe dk (ρ.set j (some ⟨.O, true, .lst ds⟩)) with
      | some (p, .lst xs, ρ1) =>
        match f ρ1 with
        | some (r, ρ2) => if r.m = .O ∧ ok (xs.length < sizeLine) = true then some ((restore ρ ρ2).set j (some ⟨.O, false, (D.lst ds).put (.ix k :: p) (.lst (xs ++ [r.d]))⟩)) else none
        | none => none
      | _ => none
    | none => none
  | _ => none
noncomputable def faGo (j : Nat) (pe : Pth) (f : SE) : Nat → Nat → Env → Option Env
  | _, 0, ρ => some ρ
  | k, n + 1, ρ =>
    match sAppAt j k pe f ρ with
    | some ρ1 => faGo j pe f (k + 1) n ρ1
    | none => none
noncomputable def sForApp (j i : Nat) (pe : Pth) (f : SE) : SS := fun ρ =>
  match ρ[j]? with
  | some (some ⟨.O, false, .lst ds⟩) =>
    if i = j ∨ ρ.length ≤ i then none else
    match faGo j pe f 0 ds.length (ρ.set i none) with
    | some ρ1 => some (.nx ρ1)
    | none => none
  | _ => none
/-- one item is changed -/
theorem appAt_ok {j i k : Nat} {te tb : TE} {pe : Pth} {f : SE} (hb : SimR W j i tb pe) (hf : SimE W te f) (S : Sta W ρ σ H F F As) (n : NoLk ρ) {D : Ends} {l : Addr} {vs : List V} {x : V} (e : sAppAt j k pe f ρ = some ρ')
    (hj : σ[j]? = some (some (.ref l))) (hl : H l = some (.lst vs)) (hx : vs[k]? = some x) (hi : σ[i]? = some (some x)) (K : ∀ H' F' As', Step W [] ρ σ H F As ρ' σ H' F' As' → (∀ t : Nat, ρ[t]? = some none → ρ'[t]? = some none) → D.nx σ H') : tDrop (tBM W.K "list" rAppend tb (tCons te tNil)) D σ H := by
  unfold sAppAt at e
  split at e
  case h_2 => cases e
  rename_i ds hs
  split at e
  case h_2 => cases e
  rename_i dk hdk
  split at e
  case h_2 => cases e
  rename_i pth xs ρ1 e1
  split at e
  case h_2 => cases e
  rename_i r ρ2 e2
  split at e
  case isFalse => cases e
  rename_i hc
  cases e
  obtain ⟨G0, As0, p0⟩ := lock_post S hs rfl
  have hs0 := get_set_same (y := some ⟨.O, true, .lst ds⟩) hs
  obtain ⟨v, hv, rv⟩ := p0.st.slot j _ hs0
  rw [hj] at hv
  cases hv
  obtain ⟨l', vs', hw, hl', _, fk⟩ := (Foc.base rv).lst
  cases hw
  rw [hl] at hl'
  cases hl'
  obtain ⟨u, eu, fu⟩ := fk k dk hdk
  rw [hx] at eu
  cases eu
  refine hb _ σ H F G0 As0 _ _ _ _ _ _ _ _ _ p0.st hs0 hi fu e1 fun w H1 G1 As1 p1 foc => ?_
  obtain ⟨l0, vs0, rfl, hl0, _, _⟩ := foc.lst
  refine ⟨.inl ⟨rfl, _, SqL.of hl0⟩, ?_⟩
  refine hf ρ1 σ H1 F G1 As1 _ _ _ p1.st e2 fun x H2 G2 As2 B p2 rep t org => ?_
  have hs1 := (p1.lk j _ hs0 rfl).1
  have hs2 := (p2.lk j _ hs1 rfl).1
  have foc2 := foc.post p1.st hs1 p2
  have pp := p0.trans S (p1.trans p0.st p2)
  obtain ⟨q, l, vs, A1, hw, hl, rr, nA, dA, fin⟩ := path_end S n hs pp hs2 hj foc2 t
  cases hw
  have rep2 : Rep W H2 F .O r.d x B := by rw [hc.1] at rep; exact rep.anyG rfl
  have rC := reps_append (m := .O) rr (.cons rep2 (.nil _))
  obtain ⟨As3, st⟩ := fin _ _ _ rC (by
    rw [List.append_nil]
    exact List.nodup_append.mpr ⟨nA, t.nd, fun a ha b hb z => dA a ha (z ▸ hb)⟩) (fun a ha => by simpa using ha)
  refine ⟨l0, vs, x, rfl, rfl, hl, by rw [← rr.len]; exact of_ok hc.2, K _ _ _ (q.trans st fun b hb => ?_) fun t ht => ?_⟩
  · rcases org b hb with y | ⟨j, y⟩
    · exact .inl (p0.dom _ (p1.dom _ y))
    · rcases p1.an j b y with ⟨j', y⟩ | y
      · rcases p0.an j' b y with y | y
        · exact .inr y
        · exact .inl y
      · exact .inl (p0.dom _ y)
  · have z : j ≠ t := fun z => by rw [← z, hs] at ht; cases ht
    rw [List.getElem?_set_ne z, restore_get _ _ (S.len.trans pp.st.len.symm), ht, pp.nw t ht]
    rfl
theorem appAt_env {j k : Nat} {pe : Pth} {f : SE} (e : sAppAt j k pe f ρ = some ρ') : ∃ ds, ρ[j]? = some (some ⟨.O, false, .lst ds⟩) ∧ k < ds.length ∧ ∃ ds', ds'.length = ds.length ∧ ((∃ ρ2 : Env, ρ' = (restore ρ ρ2).set j (some ⟨.O, false, .lst ds'⟩))) := by
  unfold sAppAt at e
  split at e
  case h_2 => cases e
  rename_i ds hs
  split at e
  case h_2 => cases e
  rename_i dk hdk
  split at e
  case h_2 => cases e
  rename_i pth xs ρ1 e1
  split at e
  case h_2 => cases e
  rename_i r ρ2 e2
  split at e
  case isFalse => cases e
  cases e
  refine ⟨ds, hs, lt_of_get hdk, ds.set k (dk.put pth (.lst (xs ++ [r.d]))), by simp, ρ2, ?_⟩
  simp [D.put, hdk]
theorem sim_forApp {j i : Nat} {te tb : TE} {pe : Pth} {f : SE} (hp : W.pin i = false) (hb : SimR W j i tb pe) (hf : SimE W te f) :
    SimS W (tFor (iSeq W.K (tVar j)) (gName i) (tDrop (tBM W.K "list" rAppend tb (tCons te tNil)))) (sForApp j i pe f) := by
  intro ρ σ H F As D out S n e k
  unfold sForApp at e
  split at e
  case h_2 => cases e
  rename_i ds hs
  split at e
  · cases e
  rename_i hij'
  have hij : i ≠ j := fun z => hij' (.inl z)
  have hil : i < ρ.length := Nat.lt_of_not_le fun z => hij' (.inr z)
  split at e
  case h_2 => cases e
  rename_i ρe ee
  cases e
  have q0 := forget_step i S n
  have hs0 : (ρ.set i none)[j]? = some (some ⟨.O, false, .lst ds⟩) := by rw [List.getElem?_set_ne hij]; exact hs
  obtain ⟨l, vs, A, hv, hl, hA, rs⟩ := own_list q0.st hs0 (by decide)
  refine ⟨.ref l, hv, l, rfl, .inl ⟨⟨vs, SqL.of hl⟩, ?_⟩⟩
  refine ⟨fun t m σ' H' => m = ds.length - t ∧ t ≤ ds.length ∧ σ'[j]? = some (some (.ref l)) ∧ ∃ ρ' F' As' ds', ds'.length = ds.length ∧ ρ'[j]? = some (some ⟨.O, false, .lst ds'⟩) ∧ ρ'[i]? = some none ∧ Step W [] ρ σ H F As ρ' σ' H' F' As' ∧ faGo j pe f t (ds.length - t) ρ' = some ρe,
    ⟨ds.length, by simp, Nat.zero_le _, hv, _, F, _, ds, rfl, hs0, ?_, q0, ee⟩, ?_⟩
  · exact List.getElem?_set_self hil
  rintro t m σ' H' ⟨rfl, hle, hvj, ρ', F', As', ds', hz, hsj, hsi, p, e2⟩
  obtain ⟨l', vs', A', hv', hl', hA', rs'⟩ := own_list p.st hsj (by decide)
  rw [hvj] at hv'
  cases hv'
  have lz : vs'.length = ds.length := by rw [← rs'.len, hz]
  by_cases hlt : t < ds.length
  · have hx : vs'[t]? = some (vs'[t]'(by omega)) := List.getElem?_eq_getElem _
    refine .inr ⟨⟨vs', _, SqL.of hl', hx⟩, fun σ2 H2 => σ2[j]? = some (some (.ref l)) ∧ ∃ ρ2 F2 As2' ds2, ds2.length = ds.length ∧ ρ2[j]? = some (some ⟨.O, false, .lst ds2⟩) ∧ ρ2[i]? = some none ∧ Step W [] ρ σ H F As ρ2 σ2 H2 F2 As2' ∧ faGo j pe f (t + 1) (ds.length - (t + 1)) ρ2 = some ρe,
      fun σ2 H2 ⟨z1, z2⟩ => ⟨ds.length - (t + 1), by omega, rfl, hlt, z1, z2⟩, ?_⟩
    rintro x H2 ⟨rfl, y⟩
    have ex := y vs' (SqL.of hl')
    have q1 := p.trans (fill_step (x := x) hp p.st p.nl fun s z => by rw [hsi] at z; cases z) fun _ z => nomatch z
    rw [show ds.length - t = (ds.length - (t + 1)) + 1 by omega, faGo] at e2
    split at e2
    case h_2 => cases e2
    rename_i ρ3 e3
    have il : i < σ'.length := by rw [p.ln, ← S.len]; exact hil
    refine appAt_ok hb hf q1.st q1.nl e3 (by rw [List.getElem?_set_ne hij]; exact hvj) hl' ex (by rw [List.getElem?_set_self il]) fun H3 F3 As3 r nn => ?_
    obtain ⟨ds0, h0, hk, ds2, hz2, ρ2, rfl⟩ := appAt_env e3
    rw [hsj] at h0
    cases h0
    have jl := lt_of_get hsj
    have l2 : ρ'.length = (restore ρ' ρ2).length := by
      have a1 := q1.st.len
      have a2 := r.st.len
      rw [List.length_set] at a2
      omega
    have l3 : ρ'.length = ρ2.length := by rw [l2, restore_len]
    refine ⟨by rw [List.getElem?_set_ne hij]; exact hvj, _, F3, As3, ds2, by omega, by rw [List.getElem?_set_self (by omega)], nn i hsi, q1.trans r (fun _ z => nomatch z), e2⟩
  · have ei : t = ds.length := by omega
    subst ei
    rw [Nat.sub_self, faGo] at e2
    cases e2
    exact .inl ⟨⟨vs', SqL.of hl', by omega⟩, k σ' H' F' As' p⟩
end
end Tr

/-! TrVal3: tuple(xs). -/
namespace Tr
open PySem L2
section
variable {W : Wd} {H G H' G' : Hp} {v u : V} {A B C : List Addr}
def opTuple : List Val → Option Val
  | [⟨_, .lst xs⟩] => if D.flats xs then some ⟨.O, .tup xs⟩ else none
  | [⟨m, .tup xs⟩] => some ⟨m, .tup xs⟩
  | _ => none
def rTupleOf (K : PySem.W.Frag) : RV := fun xs H Q => ∃ p ys, xs = [.ref p] ∧ ((SqL K H p ys ∧ ∀ l, H l = none → Q (.ref l) (upd H l (.tup ys))) ∨ (SqT K H p ys ∧ Q (.ref p) H))
theorem vop_tuple : VOp W (rTupleOf W.K) opTuple := by
  intro H G rs vs A r Q gh rep nd ga e k
  unfold opTuple at e
  split at e
  · split at e
    case isFalse => cases e
    rename_i hf
    cases e
    obtain ⟨v, rfl, h1⟩ := repL1 rep
    obtain ⟨a, us, rfl, ha, ra⟩ := rep_lst gh h1 (lookAt_same ga) fun a z => lookAt_in z
    refine ⟨a, us, rfl, .inl ⟨SqL.of ha, fun p hp => ?_⟩⟩
    have kp := upd_keep (u := .tup us) hp
    have T : SqT W.K (upd H p (.tup us)) p us := SqT.of upd_same
    have gu : Same G (upd H p (.tup us)) := fun a o e => kp a o (gh a o e)
    have r2 := (ra.flat hf).2 .O G
    exact k _ _ G [] ⟨kp, Same.refl _, gu, fun _ e n => absurd e n, .tup T (r2.mono (seqT_keep kp) (Same.refl _) fun _ z => nomatch z), List.nodup_nil, fun _ z => (nomatch z), fun _ z => (nomatch z)⟩
  · cases e
    obtain ⟨v, rfl, h1⟩ := repL1 rep
    cases h1 with
    | tup ha ra => exact ⟨_, _, rfl, .inr ⟨ha, k _ H G A ⟨fun _ _ e => e, Same.refl _, gh, fun _ e n => absurd e n, .tup ha ra, nd, ga, fun c hc => .inr hc⟩⟩⟩
  · cases e
/-- rising -/
def sortI (ns : List Int) : List Int := ns.mergeSort fun a b => decide (a ≤ b)
theorem sortI_perm (ns : List Int) : (sortI ns).Perm ns := List.mergeSort_perm ns _
theorem sortI_up (ns : List Int) : (sortI ns).Pairwise (· ≤ ·) :=
  (List.pairwise_mergeSort (le := fun a b : Int => decide (a ≤ b)) (fun a b c h1 h2 => by simp at *; omega) (fun a b => by simp; omega) ns).imp fun h => by simpa using h
theorem sortI_uniq {ns xs : List Int} (h : xs.Perm ns) (h2 : xs.Pairwise (· ≤ ·)) : xs = sortI ns :=
  List.Perm.eq_of_pairwise (fun a b _ _ h1 h2 => by omega) h2 (sortI_up ns) (h.trans (sortI_perm ns).symm)
noncomputable def opSorted : List Val → Option Val
  | [⟨_, .lst xs⟩] => (ints? xs).bind fun ns => if ok (ns.length < 64) then some ⟨.O, .lst ((sortI ns).map D.int)⟩ else none
  | _ => none
theorem vop_sorted : VOp W (rSorted W.K) opSorted := by
  intro H G rs vs A r Q gh rep nd ga e k
  unfold opSorted at e
  split at e
  · rename_i m xs
    cases en : ints? xs with
    | none => rw [en] at e; cases e
    | some ns =>
      rw [en] at e
      simp only [Option.bind_some] at e
      split at e
      case isFalse => cases e
      rename_i hl
      cases e
      obtain ⟨v, rfl, h1⟩ := repL1 rep
      obtain ⟨a, us, rfl, ha, ra⟩ := rep_lst gh h1 (lookAt_same ga) fun a z => lookAt_in z
      have eu := reps_ints ra en
      subst eu
      refine ⟨a, ns, rfl, SqL.of ha, of_ok hl, fun ns' p hp h2 hn => ?_⟩
      have e2 := sortI_uniq hp h2
      subst e2
      have kp := upd_keep (u := .lst ((sortI ns).map V.int)) hn
      have gu : Same G (upd H p (.lst ((sortI ns).map V.int))) := fun a o e => kp a o (gh a o e)
      have ri : ∀ l : List Int, Reps W (upd H p (.lst ((sortI ns).map V.int))) G .O (l.map D.int) (l.map V.int) [] := fun l => by
        induction l with
        | nil => exact .nil _
        | cons x l ih => exact .cons (A := []) (B := []) (.int _ _) ih
      refine k _ _ G [p] ⟨kp, Same.refl _, gu, fun _ e n => absurd e n, .lstO upd_same (ri _), by simp, fun c hc => ?_, fun c hc => ?_⟩
      · rw [List.mem_singleton.mp hc]
        cases z : G p with
        | none => rfl
        | some o => rw [gh p o z] at hn; cases hn
      · rw [List.mem_singleton.mp hc]; exact .inl hn
  · cases e
end
end Tr

/-! TrEv2: changes at the end of a way, in the text. -/
namespace Tr
open PySem L2 RZ
abbrev EvP (W : Wd) (X : Cx) (i : Nat) (e : Expr) (pe : Pth) (t : TE) : Prop := PE X e t ∧ SimP W i t pe
section
variable {W : Wd} {X : Cx} {e a b o : Expr} {pos p : Pos} {f g : SE} {x : Str} {ta tb to : TE} {pe : Pth} {i : Nat}
theorem ep_name (i : Nat) {x : Str} {pos : Pos} (hN : X.N[i]? = some x := by rfl) (hv : Vis X.env.scope x := by first | exact Or.inl rfl | exact Or.inr (Or.inl rfl) | exact Or.inr (Or.inr rfl)) (hd : (x == ("__debug__" : Str)) = false := by decide)
    (hcd : (x == ("__classdict__" : Str)) = false := by decide) : EvP W X i (.Name x pos) .base (tVar i) := ⟨pe_var hN hv hd hcd, simP_base i⟩
theorem ep_ix (ho : EvP W X i o pe to) (hb : EvE W X b g tb) (hs : PlainIx b := by exact fun _ _ => rfl) (hK : X.K = W.K := by rfl) : EvP W X i (.Subscript o b pos) (.ix pe g) (tOp (rIx W.K) to tb) :=
  let ⟨po, so⟩ := ho
  let ⟨pb, sb⟩ := hb
  ⟨pe_ix (hK ▸ ix_seq) po pb hs, simP_ix so sb⟩
theorem es_appendP {apos : Pos} (ho : EvP W X i o pe to) (he : EvE W X a f ta) (hbase : attributeBase o "append" X.env (eval o X.env) = eval o X.env := by rfl)
    (hfew : ((backTo pos (starEach (a :: []) X.env)).all (fun x => !x.1) && (backToKw pos (keywordEach [] X.env)).all (fun x => x.1.isSome)
      && decide ((a :: []).length + ([] : List Keyword).length + (if ([] : List Keyword).isEmpty then 0 else 1) < 30)) = true := by rfl)
    (hline : (apos.endLine == pos.line) = true := by rfl) (hs : starEach (a :: []) X.env = (false, eval a X.env) :: starEach [] X.env := by rfl) (hplain : (backTo pos (starEach [] X.env)).any (·.1) = false := by rfl)
    {pos2 : Pos} (hsw : swapsWith (.Call (.Attribute o "append" apos) [a] [] pos) none pos2.line X.env = pure false := by rfl) (hK : X.K = W.K := by rfl) :
    EvS W X (.Expr (.Call (.Attribute o "append" apos) [a] [] pos) pos2) (sApndP i pe f) (tDrop (tBM W.K "list" rAppend to (tCons ta tNil))) :=
  let ⟨po, so⟩ := ho
  let ⟨pa, sa⟩ := he
  ⟨ps_expr (hK ▸ pe_bm PySem.F.plainAttrs_list PySem.F.slot_list_append PySem.F.type_list_append mt_append po (pa_cons pa pa_nil hs) hbase hfew hline hs hplain) hsw, sim_apndP so sa⟩
theorem eg_subP {ws : List Nat} (ho : EvP W X i o pe to) (hb : EvE W X b g tb) (ha : ∀ v, assign (.Subscript o b pos) X.env v = (do
      let ov ← holding [v] (eval o X.env)
      let iv ← holding [v, ov] (eval b X.env)
      standAt pos
      holding [v, ov, iv] (setItem ov iv v)
      release [v, ov, iv] []) := by intro _; rfl) : EvG W X ws (.Subscript o b pos) (sGSubP i pe g) (gSub to tb rSetL) :=
  let ⟨po, so⟩ := ho
  let ⟨pb, sb⟩ := hb
  ⟨pg_sub po pb set_list ha, sim_gsubP so sb⟩
theorem es_augPAdd {tpos : Pos} (ho : EvP W X i o pe to) (hb : EvE W X b g tb) (he : EvE W X a f ta) (ha : ∀ ov iv new, augStore b ov iv new = (do holding [new, ov, iv] (setItem ov iv new); release [new, ov, iv] []; pure Flow.next) := by intros; rfl) (hK : X.K = W.K := by rfl) :
    EvS W X (.AugAssign (.Subscript o b tpos) .Add a pos) (sAugP i pe (fun i j => i + j) g f) (tAugS to tb ta (rIxL W.K) (ipI fun i j => i + j) rSetL) :=
  let ⟨po, so⟩ := ho
  let ⟨pb, sb⟩ := hb
  let ⟨pa, sa⟩ := he
  ⟨hK ▸ ps_augS po pb pget_list pa ip_add set_list ha, sim_augP so sb sa⟩
theorem es_augPSub {tpos : Pos} (ho : EvP W X i o pe to) (hb : EvE W X b g tb) (he : EvE W X a f ta) (ha : ∀ ov iv new, augStore b ov iv new = (do holding [new, ov, iv] (setItem ov iv new); release [new, ov, iv] []; pure Flow.next) := by intros; rfl) (hK : X.K = W.K := by rfl) :
    EvS W X (.AugAssign (.Subscript o b tpos) .Sub a pos) (sAugP i pe (fun i j => i - j) g f) (tAugS to tb ta (rIxL W.K) (ipI fun i j => i - j) rSetL) :=
  let ⟨po, so⟩ := ho
  let ⟨pb, sb⟩ := hb
  let ⟨pa, sa⟩ := he
  ⟨hK ▸ ps_augS po pb pget_list pa ip_sub set_list ha, sim_augP so sb sa⟩
abbrev EvR (W : Wd) (X : Cx) (j i : Nat) (e : Expr) (pe : Pth) (t : TE) : Prop := PE X e t ∧ SimR W j i t pe
theorem er_name {j : Nat} (i : Nat) {x : Str} {pos : Pos} (hN : X.N[i]? = some x := by rfl) (hv : Vis X.env.scope x := by first | exact Or.inl rfl | exact Or.inr (Or.inl rfl) | exact Or.inr (Or.inr rfl)) (hd : (x == ("__debug__" : Str)) = false := by decide)
    (hcd : (x == ("__classdict__" : Str)) = false := by decide) : EvR W X j i (.Name x pos) .base (tVar i) := ⟨pe_var hN hv hd hcd, simR_base j i⟩
theorem er_ix {j : Nat} (ho : EvR W X j i o pe to) (hb : EvE W X b g tb) (hs : PlainIx b := by exact fun _ _ => rfl) (hK : X.K = W.K := by rfl) : EvR W X j i (.Subscript o b pos) (.ix pe g) (tOp (rIx W.K) to tb) :=
  let ⟨po, so⟩ := ho
  let ⟨pb, sb⟩ := hb
  ⟨pe_ix (hK ▸ ix_seq) po pb hs, simR_ix so sb⟩
theorem ev_pop (i : Nat) {apos : Pos} (hN : X.N[i]? = some x := by rfl) (hv : Vis X.env.scope x := by first | exact Or.inl rfl | exact Or.inr (Or.inl rfl) | exact Or.inr (Or.inr rfl)) (hd : (x == ("__debug__" : Str)) = false := by decide)
    (hcd : (x == ("__classdict__" : Str)) = false := by decide) (hbase : attributeBase (.Name x p) "pop" X.env (eval (.Name x p) X.env) = eval (.Name x p) X.env := by rfl) (hline : (apos.endLine == pos.line) = true := by rfl) (hK : X.K = W.K := by rfl) :
    EvE W X (.Call (.Attribute (.Name x p) "pop" apos) [] [] pos) (sPop i) (tBM0 W.K "list" rPop (tVar i)) :=
  ⟨hK ▸ pe_bm0 PySem.F.plainAttrs_list PySem.F.slot_list_pop PySem.F.type_list_pop mt_pop (pe_var hN hv hd hcd) hbase hline, sim_pop i⟩
theorem es_forApp {j : Nat} {tg it : Expr} {apos pos2 posf : Pos} {sv : SE} {gv : STg} {ws : List Nat} (hp : PassesOwn (model X.prog X.w) X.A X.env X.xe) (hc : X.calm = true) (hl : EvE W X it sv (tVar j)) (hg : EvG W X ws tg gv (gName i)) (ho : EvR W X j i o pe to) (he : EvE W X a f ta)
    (hbase : attributeBase o "append" X.env (eval o X.env) = eval o X.env := by rfl)
    (hfew : ((backTo pos (starEach (a :: []) X.env)).all (fun x => !x.1) && (backToKw pos (keywordEach [] X.env)).all (fun x => x.1.isSome)
      && decide ((a :: []).length + ([] : List Keyword).length + (if ([] : List Keyword).isEmpty then 0 else 1) < 30)) = true := by rfl)
    (hline : (apos.endLine == pos.line) = true := by rfl) (hs : starEach (a :: []) X.env = (false, eval a X.env) :: starEach [] X.env := by rfl) (hplain : (backTo pos (starEach [] X.env)).any (·.1) = false := by rfl)
    (hsw : swapsWith (.Call (.Attribute o "append" apos) [a] [] pos) none pos2.line X.env = pure false := by rfl) (hf : ∀ x, foldedSetIterable it X.env x = pure x := by intro _; rfl) (hK : X.K = W.K := by rfl) (hpin : W.pin i = false := by rfl) :
    EvS W X (.For tg it [.Expr (.Call (.Attribute o "append" apos) [a] [] pos) pos2] [] posf) (sForApp j i pe f) (tFor (iSeq W.K (tVar j)) (gName i) (tDrop (tBM W.K "list" rAppend to (tCons ta tNil)))) :=
  let ⟨po, so⟩ := ho
  let ⟨pa, sa⟩ := he
  ⟨ps_for hp hc (hK ▸ pi_seq hl.1) hg.1 (pss_one (ps_expr (hK ▸ pe_bm PySem.F.plainAttrs_list PySem.F.slot_list_append PySem.F.type_list_append mt_append po (pa_cons pa pa_nil hs) hbase hfew hline hs hplain) hsw)) hf, sim_forApp hpin so sa⟩
theorem ev_tuple {es : List Expr} {fs : SA} {tA : TA} (hg : Gl X "tuple") (hm : X.mg "tuple" = none) (ha : EvA W X (e :: es) fs tA) (he : starEach (e :: es) X.env = (false, eval e X.env) :: starEach es X.env := by rfl) (hpl : (backTo pos (starEach es X.env)).any (·.1) = false := by rfl) (hK : X.K = W.K := by rfl) :
    EvE W X (.Call (.Name "tuple" p) (e :: es) [] pos) (sApp opTuple fs) (tCB (rTupleOf W.K) tA) := ev_bty (hK ▸ call_tuple_of) vop_tuple hg hm (by decide +kernel) ha (by decide) (by decide) he hpl
theorem ev_sorted {es : List Expr} {fs : SA} {tA : TA} (hg : Gl X "sorted") (hm : X.mg "sorted" = none) (ha : EvA W X (e :: es) fs tA) (he : starEach (e :: es) X.env = (false, eval e X.env) :: starEach es X.env := by rfl) (hpl : (backTo pos (starEach es X.env)).any (·.1) = false := by rfl) (hK : X.K = W.K := by rfl) :
    EvE W X (.Call (.Name "sorted" p) (e :: es) [] pos) (sApp opSorted fs) (tCB (rSorted W.K) tA) := ev_blt (hK ▸ cr_sorted) vop_sorted hg hm (by decide +kernel) ha (by decide) (by decide) he hpl
end
end Tr

/-! TrIO: defs that change the list handed in as their first parameter. -/
namespace Tr
open PySem L2 RZ
/-- a world whose slot 0 is pinned -/
abbrev W1 (K : PySem.W.Frag) (c : String → Addr) : Wd := ⟨K, c, fun i => i == 0⟩
structure IOPost (W : Wd) (H G : Hp) (A : List Addr) (v0 : V) (d' : D) (r : Val) (v : V) (H' G' : Hp) (A' B : List Addr) : Prop where
  keep : ∀ a o, H a = some o → a ∉ A → H' a = some o
  dom : ∀ a, H' a = none → H a = none
  gg : Same G G'
  gh : Same G' H'
  gn : ∀ a, G a = none → G' a ≠ none → H a = none ∨ a ∈ A
  tp : ∀ a vs, SqT W.K H a vs → SqT W.K H' a vs
  rep : Rep W H' G' r.m r.d v B
  nd : B.Nodup
  bg : ∀ b ∈ B, G' b = none
  bn : ∀ b ∈ B, H b = none ∨ b ∈ A
  rep0 : Rep W H' G' .O d' v0 A'
  nd0 : A'.Nodup
  ag : ∀ a ∈ A', G' a = none
  an : ∀ a ∈ A', H a = none ∨ a ∈ A
  dj : ∀ b ∈ B, b ∉ A'
def spIO (W : Wd) (n : Nat) (g : List D → Option (Val × D)) : Sp := fun vs H Q _ =>
  ∃ d ds v0 vs' A G r d', ds.length + 1 = n ∧ vs = v0 :: vs' ∧ Same G H ∧ Rep W H G .O d v0 A ∧ A.Nodup ∧ (∀ a ∈ A, G a = none) ∧ Reps W H G .F ds vs' [] ∧ g (d :: ds) = some (r, d') ∧
    ∀ v H' G' A' B, IOPost W H G A v0 d' r v H' G' A' B → Q v H'
theorem spIO_len {W : Wd} {n : Nat} {g : List D → Option (Val × D)} : ∀ vs H Q E, spIO W n g vs H Q E → vs.length = n := by
  rintro vs H Q E ⟨d, ds, v0, vs', A, G, r, d', hl, rfl, _, _, _, _, rp, _⟩
  rw [List.length_cons, ← rp.len]
  exact hl
noncomputable def startIO (n : Nat) : List D → Env
  | [] => []
  | d :: ds => some ⟨.O, false, d⟩ :: (ds.map (fun d => some (par d)) ++ List.replicate (n - (ds.length + 1)) none)
def own0 (r : Val) (ρ : Env) : Option (Val × D) :=
  match ρ[(0 : Nat)]? with
  | some (some ⟨.O, false, d⟩) => some (r, d)
  | _ => none
theorem own0_eq {r r1 : Val} {d : D} {ρ : Env} (h : own0 r ρ = some (r1, d)) : r1 = r ∧ ρ[(0 : Nat)]? = some (some ⟨.O, false, d⟩) := by
  unfold own0 at h
  split at h
  · rename_i e
    cases h
    exact ⟨rfl, e⟩
  · cases h
noncomputable def fnSemIO (np n : Nat) (b : SS) : List D → Option (Val × D) := fun ds =>
  if ds.length = np then
    match b (startIO n ds) with
    | some (.rt r ρ) => own0 r ρ
    | some (.nx ρ) => own0 ⟨.O, .non⟩ ρ
    | _ => none
  else none
section
variable {W : Wd} {ρ ρ' ρ1 ρ2 : Env} {σ σ' σ1 σ2 : L2.St} {H F G H' F' G' H1 F1 G1 H2 F2 G2 : Hp} {As As' As1 As2 : Nat → List Addr} {B : List Addr}
theorem startIO_sta {N : List Str} {d : D} {ds : List D} {v0 : V} {vs : List V} {A : List Addr} (hl : ds.length + 1 ≤ N.length) (gh : Same G H) (r0 : Rep W H G .O d v0 A) (nd : A.Nodup) (ag : ∀ a ∈ A, G a = none) (rp : Reps W H G .F ds vs []) :
    Sta W (startIO N.length (d :: ds)) (L2.start N (v0 :: vs)) H G G (fun i => if i = 0 then A else []) ∧ NoLk (startIO N.length (d :: ds)) := by
  have el := rp.len
  have get : ∀ (i : Nat) (s : Slot), (startIO N.length (d :: ds))[i]? = some (some s) → (i = 0 ∧ s = ⟨.O, false, d⟩) ∨ ∃ j e, i = j + 1 ∧ ds[j]? = some e ∧ s = par e := fun i s h => by
    cases i with
    | zero => cases h; exact .inl ⟨rfl, rfl⟩
    | succ j =>
      refine .inr ⟨j, ?_⟩
      rw [startIO, List.getElem?_cons_succ] at h
      by_cases q : j < ds.length
      · rw [List.getElem?_append_left (by simpa using q), List.getElem?_map] at h
        refine ⟨ds[j], rfl, by simp [q], ?_⟩
        rw [List.getElem?_eq_getElem q] at h
        simp at h
        exact h.symm
      · rw [List.getElem?_append_right (by simpa using q)] at h
        rw [List.getElem?_replicate] at h
        split at h <;> cases h
  have nl : NoLk (startIO N.length (d :: ds)) := fun i s h => by
    rcases get i s h with ⟨_, rfl⟩ | ⟨_, _, _, _, rfl⟩ <;> rfl
  have as0 : ∀ i a, a ∈ (fun i => if i = 0 then A else []) i → i = 0 ∧ a ∈ A := fun i a h => by
    by_cases q : i = 0
    · simp only [if_pos q] at h; exact ⟨q, h⟩
    · simp only [if_neg q] at h; cases h
  refine ⟨⟨?_, fun i s h => ?_, fun i s h l => ?_, fun i s h l a ha => ag a (as0 i a ha).2, fun i h => ?_, fun i => ?_, fun i j a h1 h2 => (as0 i a h1).1.trans (as0 j a h2).1.symm, fun i a h => ag a (as0 i a h).2, Same.refl _, gh⟩, nl⟩
  · unfold startIO L2.start
    simp only [List.length_append, List.length_map, List.length_replicate, List.length_cons]
    rw [el]
    omega
  · rcases get i s h with ⟨rfl, rfl⟩ | ⟨j, e, rfl, he, rfl⟩
    · exact ⟨v0, rfl, r0⟩
    · obtain ⟨v, hv, r⟩ := reps_get rp rfl he
      refine ⟨v, ?_, ?_⟩
      · unfold L2.start
        rw [List.map_cons, List.cons_append, List.getElem?_cons_succ]
        have q : j < vs.length := lt_of_get hv
        rw [List.getElem?_append_left (by simpa using q), List.getElem?_map, hv]
        rfl
      · simp only [if_neg (Nat.succ_ne_zero j)]
        exact rep_par r
  · rw [nl i s h] at l; cases l
  · by_cases q : i = 0
    · subst q
      exact absurd rfl (h ⟨.O, false, d⟩)
    · exact if_neg q
  · by_cases q : i = 0
    · simp only [if_pos q]; exact nd
    · simp only [if_neg q]; exact List.nodup_nil
end
section
variable {K : PySem.W.Frag} {c : String → Addr}
theorem IOPost.pin {p q : Nat → Bool} {H G : Hp} {A : List Addr} {v0 : V} {d' : D} {r : Val} {v : V} {H' G' : Hp} {A' B : List Addr} (z : IOPost ⟨K, c, p⟩ H G A v0 d' r v H' G' A' B) : IOPost ⟨K, c, q⟩ H G A v0 d' r v H' G' A' B :=
  ⟨z.keep, z.dom, z.gg, z.gh, z.gn, z.tp, z.rep.pin, z.nd, z.bg, z.bn, z.rep0.pin, z.nd0, z.ag, z.an, z.dj⟩
theorem bodyIO_ok {N : List Str} {t : TS} {b : SS} {vs : List V} {Q : VK} {E : XK} {n : Nat} (hb : SimS (W1 K c) t b) (hn : n ≤ N.length) (h : spIO (W0 K c) n (fnSemIO n N.length b) vs H Q E) : t { nx := fun _ H' => Q .non H', rt := Q } (L2.start N vs) H := by
  obtain ⟨d, ds, v0, vs', A, G, r, d', hl, rfl, gh, r0, nd, ag, rp, e, k⟩ := h
  obtain ⟨S, nl⟩ := startIO_sta (W := W1 K c) (N := N) (by omega) gh r0.pin nd ag rp.pin
  have as0 : ∀ i a, a ∈ (fun i => if i = 0 then A else []) i → i = 0 ∧ a ∈ A := fun i a h => by
    by_cases q : i = 0
    · simp only [if_pos q] at h; exact ⟨q, h⟩
    · simp only [if_neg q] at h; cases h
  have to0 : ∀ a, (∃ i, a ∈ (fun i => if i = 0 then A else []) i) → a ∈ A := fun a ⟨i, h⟩ => (as0 i a h).2
  have in0 : ∀ a, a ∉ A → ∀ i, a ∉ (fun i => if i = 0 then A else []) i := fun a h i z => h (as0 i a z).2
  have unl0 : ∀ a, ¬ Unl (startIO N.length (d :: ds)) (fun i => if i = 0 then A else []) a → a ∉ A := fun a h z => h ⟨0, ⟨.O, false, d⟩, rfl, rfl, z⟩
  unfold fnSemIO at e
  rw [if_pos (by simpa using hl)] at e
  split at e
  · rename_i r1 ρ1 e1
    obtain ⟨rfl, e2⟩ := own0_eq e
    refine hb _ _ H G _ _ _ S nl e1 ?_
    intro v σ' H' F' G' As' B q
    obtain ⟨u, hu, ru⟩ := q.st.slot 0 _ e2
    have eu : u = v0 := by
      rw [q.pn 0 rfl] at hu
      cases hu
      rfl
    subst eu
    refine k v H' G' (As' 0) B ⟨fun a o e n => q.keep a o e (in0 a n), q.dom, q.fg, q.st.gh, fun a e n => (q.gn a e n).imp_right (to0 a), S.tup fun a o e n => q.keep a o e (in0 a (unl0 a n)), q.rep.pin, q.tmp.nd, q.tmp.g, fun b hb => (q.org b hb).imp_right (to0 b), (ru.anyG rfl).pin, q.st.nd 0, fun a ha => q.st.free 0 _ e2 rfl a ha, fun a ha => (q.an 0 a ha).imp_right (to0 a), fun b hb => q.tmp.a b hb 0⟩
  · rename_i ρ1 e1
    obtain ⟨rfl, e2⟩ := own0_eq e
    refine hb _ _ H G _ _ _ S nl e1 ?_
    intro σ' H' F' As' q
    obtain ⟨u, hu, ru⟩ := q.st.slot 0 _ e2
    have eu : u = v0 := by
      rw [q.pn 0 rfl] at hu
      cases hu
      rfl
    subst eu
    have or3 : ∀ a, (H a = none ∨ (∃ j, a ∈ (fun i => if i = 0 then A else []) j) ∨ a ∈ ([] : List Addr)) → H a = none ∨ a ∈ A := fun a h => by
      rcases h with h | h | h
      · exact .inl h
      · exact .inr (to0 a h)
      · cases h
    refine k .non H' F' (As' 0) [] ⟨fun a o e n => q.keep a o e (in0 a n) (fun z => nomatch z), q.dom, q.ff, q.st.gh, fun a e n => or3 a (q.fn a e n), q.tp, .non _, List.nodup_nil, fun _ z => (nomatch z), fun _ z => (nomatch z), (ru.anyG rfl).pin, q.st.nd 0, fun a ha => q.st.free 0 _ e2 rfl a ha, fun a ha => or3 a (q.an 0 a ha), fun _ z => (nomatch z)⟩
  · cases e
theorem fnSemIO_len {np n : Nat} {b : SS} {ds : List D} (h : (fnSemIO np n b ds).isSome = true) : ds.length = np := by
  unfold fnSemIO at h
  split at h
  · assumption
  · cases h
/-! ### the call -/
/-- the list stands in slot i -/
noncomputable def sCallIO (i : Nat) (o : List D → Option (Val × D)) (fs : SA) : SE := sealE fun ρ =>
  match ρ[i]? with
  | some (some ⟨_, _, _⟩) =>
    match fs ρ with
    | some (rs, ρ1) =>
      match ρ1[i]? with
      | some (some ⟨.O, false, d⟩) =>
        match o (d :: rs.map (fun (x : Val) => x.d)) with
        | some (r, d') => some (r, ρ1.set i (some ⟨.O, false, d'⟩))
        | none => none
      | _ => none
    | none => none
  | _ => none
/-- the list is at hand, and is lost -/
noncomputable def sCallT (o : List D → Option (Val × D)) (f : SE) (fs : SA) : SE := sealE fun ρ =>
  match f ρ with
  | some (r0, ρ1) =>
    match fs ρ1 with
    | some (rs, ρ2) =>
      if r0.m = .O then
        match o (r0.d :: rs.map (fun (x : Val) => x.d)) with
        | some (r, _) => some (r, ρ2)
        | none => none
      else none
    | none => none
  | none => none
end
section
variable {W : Wd} {ρ ρ' ρ1 ρ2 : Env} {σ σ' σ1 σ2 : L2.St} {H F G H' F' G' H1 F1 G1 H2 F2 G2 : Hp} {As As' As1 As2 : Nat → List Addr} {B : List Addr}
theorem sim_callIO {i n : Nat} {o : List D → Option (Val × D)} {fs : SA} {ta : TA} {E : XK} (hn : ∀ ds, (o ds).isSome = true → ds.length = n) (ha : SimA W ta fs) :
    SimE W (tCB (fun vs H Q => spIO (W0 W.K W.cls) n o (vs ++ []) H Q E) (tCons (tVar i) ta)) (sCallIO i o fs) := by
  obtain ⟨K, cl, pn⟩ := W
  refine sim_seal ?_
  intro ρ σ H F G As r ρ' Q S e k
  simp only at e
  split at e
  case h_2 => cases e
  rename_i m0 l0 d0 hs0
  split at e
  case h_2 => cases e
  rename_i rs ρ1 e1
  split at e
  case h_2 => cases e
  rename_i d hs
  split at e
  case h_2 => cases e
  rename_i r2 d' e2
  cases e
  obtain ⟨v0, hv, _⟩ := S.slot i _ hs0
  refine ⟨v0, hv, ?_⟩
  refine ha _ σ H F G _ _ _ _ S e1 fun vs H1 G1 As1 B p rep t org => ?_
  obtain ⟨u, hu, r0⟩ := p.st.slot i _ hs
  rw [hv] at hu
  cases hu
  have li : i < ρ1.length := lt_of_get hs
  have unl : ∀ a ∈ As1 i, Unl ρ1 As1 a := fun a h => ⟨i, _, hs, rfl, h⟩
  have disB : ∀ a ∈ As1 i, a ∉ B := fun a h z => t.a a z i h
  have gA : ∀ a ∈ As1 i, G1 a = none := fun a h => p.st.free i _ hs rfl a h
  have s1 : Same G1 (lookAt G1 H1 B) := lookAt_same t.g
  have rf := rep.froze (G' := lookAt G1 H1 B) s1 fun a ha => lookAt_in ha
  have r1 : Rep ⟨K, cl, pn⟩ H1 (lookAt G1 H1 B) .O d v0 (As1 i) := r0.anyG rfl
  show spIO (W0 K cl) n o ((v0 :: vs) ++ []) H1 Q E
  rw [List.append_nil]
  have hlen := hn _ (by rw [e2]; rfl)
  refine ⟨d, rs.map fun (x : Val) => x.d, v0, vs, As1 i, lookAt G1 H1 B, _, d', by simpa using hlen, rfl, lookAt_sub p.st.gh, r1.pin, p.st.nd i, fun a h => ?_, rf.pin, e2, fun v H' G' A' B' q => ?_⟩
  · rw [lookAt_out (disB a h)]
    exact gA a h
  have q := q.pin (q := pn)
  have get : ∀ (j : Nat) (u : Slot), (ρ1.set i (some ⟨.O, false, d'⟩))[j]? = some (some u) → (j = i ∧ u = ⟨.O, false, d'⟩) ∨ (j ≠ i ∧ ρ1[j]? = some (some u)) := fun j u h => by
    rw [get_set] at h
    split at h
    · rename_i q
      cases h
      exact .inl ⟨q.1, rfl⟩
    · rename_i q
      by_cases z : j = i
      · exact absurd ⟨z, li⟩ q
      · exact .inr ⟨z, h⟩
  have sb2 : ∀ j a, a ∈ (fun j => if j = i then A' else As1 j) j → (j = i ∧ a ∈ A') ∨ (j ≠ i ∧ a ∈ As1 j) := fun j a h => by
    by_cases q : j = i
    · simp only [if_pos q] at h; exact .inl ⟨q, h⟩
    · simp only [if_neg q] at h; exact .inr ⟨q, h⟩
  have fg : Same F G' := (p.st.fg.trans s1).trans q.gg
  have keep1 : ∀ j, j ≠ i → ∀ a, a ∈ As1 j → ∀ o, H1 a = some o → H' a = some o := fun j hj a h o e => q.keep a o e fun z => hj (p.st.dj j i a h z)
  have new1 : ∀ j, j ≠ i → ∀ a, a ∈ As1 j → ¬ (H1 a = none ∨ a ∈ As1 i) := fun j hj a h z => by
    rcases z with z | z
    · obtain ⟨o, eo, _⟩ := p.st.own h
      rw [eo] at z; cases z
    · exact hj (p.st.dj j i a h z)
  have st : Sta ⟨K, cl, pn⟩ (ρ1.set i (some ⟨.O, false, d'⟩)) σ H' F G' (fun j => if j = i then A' else As1 j) := by
    refine ⟨by rw [List.length_set]; exact p.st.len, fun j s h => ?_, fun j s h l a ha => ?_, fun j s h l a ha => ?_, fun j h => ?_, fun j => ?_, fun j1 j2 a h1 h2 => ?_, fun j a h => ?_, fg, q.gh⟩
    · rcases get j s h with ⟨rfl, rfl⟩ | ⟨z, e⟩
      · refine ⟨v0, hv, ?_⟩
        simp only [if_pos]
        exact q.rep0.anyG rfl
      · obtain ⟨x, hx, rx⟩ := p.st.slot j s e
        refine ⟨x, hx, ?_⟩
        simp only [if_neg z]
        exact rx.mono q.tp (Same.refl _) (keep1 j z)
    · rcases get j s h with ⟨rfl, rfl⟩ | ⟨z, e⟩
      · cases l
      · simp only [if_neg z] at ha
        obtain ⟨o, eo, _⟩ := p.st.own ha
        have y := p.st.lock j s e l a ha
        rw [eo] at y
        rw [q.gg a o (s1 a o y), keep1 j z a ha o eo]
    · rcases sb2 j a ha with ⟨rfl, y⟩ | ⟨y, ha⟩
      · exact q.ag a y
      · rcases get j s h with ⟨rfl, rfl⟩ | ⟨z, e⟩
        · exact absurd rfl y
        · cases w : G' a with
          | none => rfl
          | some o =>
            refine absurd (q.gn a ?_ (by rw [w]; exact fun q => nomatch q)) (new1 j z a ha)
            rw [lookAt_out fun u => t.a a u j ha]
            exact p.st.free j s e l a ha
    · have z : j ≠ i := fun z => h ⟨.O, false, d'⟩ (by rw [z, List.getElem?_set_self li])
      simp only [if_neg z]
      exact p.st.none j fun u y => h u (by rw [List.getElem?_set_ne (Ne.symm z)]; exact y)
    · by_cases z : j = i
      · simp only [if_pos z]; exact q.nd0
      · simp only [if_neg z]; exact p.st.nd j
    · rcases sb2 j1 a h1 with ⟨x1, y1⟩ | ⟨x1, y1⟩ <;> rcases sb2 j2 a h2 with ⟨x2, y2⟩ | ⟨x2, y2⟩
      · exact x1.trans x2.symm
      · exact absurd (q.an a y1) (new1 j2 x2 a y2)
      · exact absurd (q.an a y2) (new1 j1 x1 a y1)
      · exact p.st.dj _ _ _ y1 y2
    · rcases sb2 j a h with ⟨_, y⟩ | ⟨_, y⟩
      · cases w : F a with
        | none => rfl
        | some o =>
          have := fg a o w
          rw [q.ag a y] at this
          cases this
      · exact p.st.fo j a y
  have toAs : ∀ a, (H1 a = none ∨ a ∈ As1 i) → H a = none ∨ ∃ j, a ∈ As j := fun a z => by
    rcases z with z | z
    · exact .inl (p.dom a z)
    · exact (p.an i a z).symm
  have toUnl : ∀ a, (H1 a = none ∨ a ∈ As1 i) → Unl ρ As a ∨ H a = none := fun a z => by
    rcases z with z | z
    · exact .inr (p.dom a z)
    · exact p.ul a (unl a z)
  refine k v H' G' _ B' ⟨st, fun a o e z => q.keep a o (p.keep a o e z) fun y => ?_, fun a e => p.dom a (q.dom a e), (p.gg.trans s1).trans q.gg, fun a e z => ?_, fun j a h => ?_, fun a ⟨j, s, h1, h2, h3⟩ => ?_, fun j s h l => ?_, fun j h => ?_⟩ q.rep ⟨q.nd, q.bg, fun b hb e => ?_, fun b hb j z => ?_⟩ fun b hb => toAs b (q.bn b hb)
  · rcases p.ul a (unl a y) with w | w
    · exact z w
    · rw [e] at w; cases w
  · cases w : G1 a with
    | some o => exact p.gn a e (by rw [w]; exact fun q => nomatch q)
    | none =>
      by_cases y : a ∈ B
      · exact org a y
      · exact toAs a (q.gn a (by rw [lookAt_out y]; exact w) z)
  · rcases sb2 j a h with ⟨_, y⟩ | ⟨_, y⟩
    · exact (toAs a (q.an a y)).symm
    · exact p.an j a y
  · rcases sb2 j a h3 with ⟨rfl, y⟩ | ⟨w, y⟩
    · exact toUnl a (q.an a y)
    · rw [List.getElem?_set_ne (Ne.symm w)] at h1
      exact p.ul a ⟨j, s, h1, h2, y⟩
  · obtain ⟨x1, x2⟩ := p.lk j s h l
    have z : j ≠ i := fun z => by rw [z, hs] at x1; cases x1; cases l
    refine ⟨by rw [List.getElem?_set_ne (Ne.symm z)]; exact x1, ?_⟩
    simp only [if_neg z]
    exact x2
  · have y := p.nw j h
    have z : j ≠ i := fun z => by rw [z, hs] at y; cases y
    rw [List.getElem?_set_ne (Ne.symm z)]
    exact y
  · obtain ⟨o, eo, _⟩ := q.rep.own b hb
    rw [eo] at e; cases e
  · rcases sb2 j b z with ⟨_, y⟩ | ⟨x, y⟩
    · exact q.dj b hb y
    · exact new1 j x b y (q.bn b hb)
theorem sim_callT {n : Nat} {o : List D → Option (Val × D)} {f : SE} {fs : SA} {te : TE} {ta : TA} {E : XK} (hn : ∀ ds, (o ds).isSome = true → ds.length = n) (hf : SimE W te f) (ha : SimA W ta fs) :
    SimE W (tCB (fun vs H Q => spIO (W0 W.K W.cls) n o (vs ++ []) H Q E) (tCons te ta)) (sCallT o f fs) := by
  obtain ⟨K, cl, pn⟩ := W
  refine sim_seal ?_
  intro ρ σ H F G As r ρ' Q S e k
  simp only at e
  split at e
  case h_2 => cases e
  rename_i r0 ρ0 e0
  split at e
  case h_2 => cases e
  rename_i rs ρ2 e1
  split at e
  case isFalse => cases e
  rename_i hm
  split at e
  case h_2 => cases e
  rename_i r2 d' e2
  cases e
  refine hf _ σ H F G _ _ _ _ S e0 fun v0 H0 G0 As0 A p0 rp0 t0 o0 => ?_
  refine ha _ σ H0 F G0 _ _ _ _ p0.st e1 fun vs H1 G1 As1 B p1 rep t1 o1 => ?_
  obtain ⟨t0', kA⟩ := p1.tmp p0.st t0
  have p := p0.trans S p1
  have disB : ∀ a ∈ A, a ∉ B := fun a h z => by
    rcases o1 a z with y | ⟨j, y⟩
    · exact t0.h a h y
    · exact t0.a a h j y
  have s1 : Same G1 (lookAt G1 H1 B) := lookAt_same t1.g
  have rf := rep.froze (G' := lookAt G1 H1 B) s1 fun a ha => lookAt_in ha
  obtain ⟨m0, d0⟩ := r0
  simp only at hm e2 rp0
  subst hm
  have r1 : Rep ⟨K, cl, pn⟩ H1 (lookAt G1 H1 B) .O d0 v0 A := (rp0.mono (p1.tups p0.st) (Same.refl _) kA).anyG rfl
  show spIO (W0 K cl) n o ((v0 :: vs) ++ []) H1 Q E
  rw [List.append_nil]
  have hlen := hn _ (by rw [e2]; rfl)
  refine ⟨d0, rs.map fun (x : Val) => x.d, v0, vs, A, lookAt G1 H1 B, _, d', by simpa using hlen, rfl, lookAt_sub p.st.gh, r1.pin, t0.nd, fun a h => ?_, rf.pin, e2, fun v H' G' A' B' q => ?_⟩
  · rw [lookAt_out (disB a h)]
    exact t0'.g a h
  have q := q.pin (q := pn)
  have fg : Same F G' := (p.st.fg.trans s1).trans q.gg
  have keep1 : ∀ j a, a ∈ As1 j → ∀ o, H1 a = some o → H' a = some o := fun j a h o e => q.keep a o e fun z => t0'.a a z j h
  have new1 : ∀ j a, a ∈ As1 j → ¬ (H1 a = none ∨ a ∈ A) := fun j a h z => by
    rcases z with z | z
    · obtain ⟨o, eo, _⟩ := p.st.own h
      rw [eo] at z; cases z
    · exact t0'.a a z j h
  have toAs : ∀ a, (H1 a = none ∨ a ∈ A) → H a = none ∨ ∃ j, a ∈ As j := fun a z => by
    rcases z with z | z
    · exact .inl (p.dom a z)
    · exact o0 a z
  have orgB : ∀ a ∈ B, H a = none ∨ ∃ j, a ∈ As j := fun a z => by
    rcases o1 a z with y | ⟨j, y⟩
    · exact .inl (p0.dom a y)
    · exact (p0.an j a y).symm
  have st : Sta ⟨K, cl, pn⟩ ρ' σ H' F G' As1 := by
    refine ⟨p.st.len, fun j s h => ?_, fun j s h l a ha => ?_, fun j s h l a ha => ?_, p.st.none, p.st.nd, p.st.dj, p.st.fo, fg, q.gh⟩
    · obtain ⟨x, hx, rx⟩ := p.st.slot j s h
      exact ⟨x, hx, rx.mono q.tp (Same.refl _) (keep1 j)⟩
    · obtain ⟨o, eo, _⟩ := p.st.own ha
      have y := p.st.lock j s h l a ha
      rw [eo] at y
      rw [q.gg a o (s1 a o y), keep1 j a ha o eo]
    · cases w : G' a with
      | none => rfl
      | some o =>
        refine absurd (q.gn a ?_ (by rw [w]; exact fun q => nomatch q)) (new1 j a ha)
        rw [lookAt_out fun u => t1.a a u j ha]
        exact p.st.free j s h l a ha
  have unlA : ∀ a ∈ A, ∀ o, H a = some o → Unl ρ As a := fun a h o e => by
    rcases o0 a h with y | ⟨j, y⟩
    · rw [e] at y; cases y
    · obtain ⟨s, hs⟩ := S.has y
      refine ⟨j, s, hs, ?_, y⟩
      cases l : s.lk with
      | false => rfl
      | true =>
        have z := S.lock j s hs l a y
        rw [e] at z
        have z := p0.gg a o z
        rw [t0.g a h] at z
        cases z
  refine k v H' G' _ B' ⟨st, fun a o e z => q.keep a o (p.keep a o e z) fun y => z (unlA a y o e), fun a e => p.dom a (q.dom a e), (p.gg.trans s1).trans q.gg, fun a e z => ?_, p.an, p.ul, p.lk, p.nw⟩ q.rep ⟨q.nd, q.bg, fun b hb e => ?_, fun b hb j z => new1 j b z (q.bn b hb)⟩ fun b hb => toAs b (q.bn b hb)
  · cases w : G1 a with
    | some o => exact p.gn a e (by rw [w]; exact fun q => nomatch q)
    | none =>
      by_cases y : a ∈ B
      · exact orgB a y
      · exact toAs a (q.gn a (by rw [lookAt_out y]; exact w) z)
  · obtain ⟨o, eo, _⟩ := q.rep.own b hb
    rw [eo] at e; cases e
end
/-! ### in the text -/
section
variable {W : Wd} {X : Cx} {e : Expr} {es : List Expr} {pos p py : Pos} {fs : SA} {x y : Str} {tA : TA}
theorem ev_callIO {k n : Nat} {fa : Addr} {fd : FuncData} {ps : List Str} {o : List D → Option (Val × D)} (i : Nat) (F : FnOk X.prog X.w X.K X.mg X.base CX0 k fa fd ps (spIO (W0 W.K W.cls) n o)) (hn : ∀ ds, (o ds).isSome = true → ds.length = n) (hr : Room k X.A) (hg : Gl X x) (hm : X.mg x = some (.ref fa)) (hk : PySem.W.keepIn X.K (.ref fa) = true) (hb : Binds X.K fd ps [])
    (ha : EvA W X es fs tA) (hN : X.N[i]? = some y := by rfl) (hv : Vis X.env.scope y := by first | exact Or.inl rfl | exact Or.inr (Or.inl rfl) | exact Or.inr (Or.inr rfl)) (hd : (y == ("__debug__" : Str)) = false := by decide)
    (hcd : (y == ("__classdict__" : Str)) = false := by decide) (hdb : (x == ("__debug__" : Str)) = false := by decide) (he : starEach (.Name y py :: es) X.env = (false, eval (.Name y py) X.env) :: starEach es X.env := by rfl) (hpl : (backTo pos (starEach es X.env)).any (·.1) = false := by rfl) :
    EvE W X (.Call (.Name x p) (.Name y py :: es) [] pos) (sCallIO i o fs) (tCall (spIO (W0 W.K W.cls) n o) [] E0 (tCons (tVar i) tA)) :=
  let ⟨pa, sa⟩ := ha
  ⟨pe_call F hr hg hm hk hb .nil pass0 (pa_cons (pe_var hN hv hd hcd) pa he) hdb he hpl, sim_callIO hn sa⟩
theorem ev_callT {k n : Nat} {fa : Addr} {fd : FuncData} {ps : List Str} {o : List D → Option (Val × D)} {f : SE} {ta : TE} (F : FnOk X.prog X.w X.K X.mg X.base CX0 k fa fd ps (spIO (W0 W.K W.cls) n o)) (hn : ∀ ds, (o ds).isSome = true → ds.length = n) (hr : Room k X.A) (hg : Gl X x) (hm : X.mg x = some (.ref fa)) (hk : PySem.W.keepIn X.K (.ref fa) = true) (hb : Binds X.K fd ps [])
    (h0 : EvE W X e f ta) (ha : EvA W X es fs tA) (hdb : (x == ("__debug__" : Str)) = false := by decide) (he : starEach (e :: es) X.env = (false, eval e X.env) :: starEach es X.env := by rfl) (hpl : (backTo pos (starEach es X.env)).any (·.1) = false := by rfl) :
    EvE W X (.Call (.Name x p) (e :: es) [] pos) (sCallT o f fs) (tCall (spIO (W0 W.K W.cls) n o) [] E0 (tCons ta tA)) :=
  let ⟨p0, s0⟩ := h0
  let ⟨pa, sa⟩ := ha
  ⟨pe_call F hr hg hm hk hb .nil pass0 (pa_cons p0 pa he) hdb he hpl, sim_callT hn s0 sa⟩
end
section
variable {P : Program} {w : World} {K : PySem.W.Frag} {mg : Str → Option Value} {base : Heap} {c : Cl}
theorem ev_fnIO {x qual : Str} {st : Stmt} {f : Addr} {fd : FuncData} {N ps : List Str} {k np n : Nat} {b : SS} {m : List D → Option (Val × D)} (F : Fun K x qual st f fd) (S : FnScope N ps (defScope st)) (hp : ps.length = np) (hN : N.length = n) (hm : m = fnSemIO np n b)
    (hb : ∀ (cdv : Value) (A : Around) (outer : List PySem.Env) (s : Shared) (H : Hp) (E : XK), Room k (A.deeper (PyProof.Rows.envOfC qual (defScope st) s.heap.objs.size f cdv)) → ∃ t b', EvB (W1 K c) (cxOf CX0 P w K mg base N qual (defScope st) f cdv A outer s H E).nox (defBody st) b' t ∧ b' = b) :
    FnOk P w K mg base CX0 (k + 1) f fd ps (spIO (W0 K c) np m) := by
  subst hp hN hm
  refine F.ok S spIO_len (fun cdv A outer s H vs Q E hr hsp => ?_)
  obtain ⟨t, b', ⟨ht, hs⟩, rfl⟩ := hb cdv A outer s H E hr
  have hl : ps.length ≤ N.length := by
    have e := congrArg List.length S.pre
    rw [List.length_take] at e
    omega
  exact ⟨t, ht, bodyIO_ok hs hl hsp⟩
end
end Tr

/-! TrVal4: list(range(i, j)). -/
namespace Tr
open PySem L2 RZ
noncomputable def opListRg : List Val → Option Val
  | [⟨_, .int i⟩, ⟨_, .int j⟩] => if ok (RgOk i j) = true then some (mkL (up i (j - i).toNat)) else none
  | _ => none
def rListRg : R2 := fun x y H Q => ∃ i j, x = .int i ∧ y = .int j ∧ RgOk i j ∧ ∀ q, H q = none → Q (.ref q) (upd H q (.lst (rgV i j)))
theorem vop_listRg {W : Wd} : VOp W (rr2 rListRg) opListRg := by
  intro H G rs vs A r Q gh rep nd ga e k
  unfold opListRg at e
  split at e
  · split at e
    case isFalse => cases e
    rename_i m i m2 j hr
    cases e
    obtain ⟨v, u, A1, A2, rfl, rfl, r1, r2⟩ := repL2 rep
    obtain ⟨rfl, rfl⟩ := rep_int r1
    obtain ⟨rfl, rfl⟩ := rep_int r2
    refine ⟨_, _, rfl, rfl, of_ok hr, fun p hp => ?_⟩
    have ra : Reps W H (lookAt G H ([] ++ [])) .F (up i (j - i).toNat) (rgV i j) [] := by
      have := reps_intsC (W := W) (H := H) (G := lookAt G H ([] ++ [])) (m := .F) ((List.range (j - i).toNat).map fun k : Nat => i + (k : Int))
      rw [List.map_map, List.map_map] at this
      exact this
    obtain ⟨G', q⟩ := vpost_new gh ga hp ra
    exact k _ _ _ _ q
  · cases e
section
variable {W : Wd} {X : Cx} {a b : Expr} {f g : SE} {ta tb : TE} {p p2 pos pos2 : Pos}
theorem ev_listRg (hc : X.calm = true) (hg : Gl X "list") (hm : X.mg "list" = none) (hg2 : Gl X "range") (hm2 : X.mg "range" = none) (ha : EvE W X a f ta) (hb : EvE W X b g tb)
    (na2 : starEach [a, b] X.env = (false, eval a X.env) :: starEach [b] X.env := by rfl) (nb : starEach [b] X.env = (false, eval b X.env) :: starEach [] X.env := by rfl) (hp : (backTo pos2 (starEach [b] X.env)).any (·.1) = false := by rfl)
    (na : starEach [.Call (.Name "range" p2) [a, b] [] pos2] X.env = (false, eval (.Call (.Name "range" p2) [a, b] [] pos2) X.env) :: starEach [] X.env := by rfl) :
    EvE W X (.Call (.Name "list" p) [.Call (.Name "range" p2) [a, b] [] pos2] [] pos) (sApp2 opListRg f g) (tOp rListRg ta tb) :=
  ⟨pe_listRg hc hg hm (prg_2 hg2 hm2 ha.1 hb.1 na2 nb hp) na, sim_app2 ha.2 hb.2 vop_listRg⟩
end
theorem reps_appF {W : Wd} {H G : Hp} : ∀ {ds es : List D} {vs us : List V}, Reps W H G .F ds vs [] → Reps W H G .F es us [] → Reps W H G .F (ds ++ es) (vs ++ us) []
  | [], _, [], _, _, q => q
  | [], _, _ :: _, _, h, _ => by cases h
  | d :: ds, es, vs, us, h, q => by
    generalize e : ([] : List Addr) = Z at h
    cases h with
    | @cons _ _ _ v vs A B r h =>
      have := List.append_eq_nil_iff.mp e.symm
      obtain ⟨rfl, rfl⟩ := this
      exact .cons (A := []) (B := []) r (reps_appF h q)
theorem reps_revF {W : Wd} {H G : Hp} : ∀ {ds : List D} {vs : List V}, Reps W H G .F ds vs [] → Reps W H G .F ds.reverse vs.reverse []
  | [], [], _ => .nil _
  | [], _ :: _, h => by cases h
  | d :: ds, vs, h => by
    generalize e : ([] : List Addr) = Z at h
    cases h with
    | @cons _ _ _ v vs A B r h =>
      have := List.append_eq_nil_iff.mp e.symm
      obtain ⟨rfl, rfl⟩ := this
      rw [List.reverse_cons, List.reverse_cons]
      exact reps_appF (reps_revF h) (.cons (A := []) (B := []) r (.nil _))
/-! ### xs[::-1] -/
def opRevL : List Val → Option Val
  | [⟨_, .lst xs⟩] => some (mkL xs.reverse)
  | _ => none
def rRevL (K : PySem.W.Frag) : V → Hp → VK → Prop := fun x H Q => ∃ a xs, x = .ref a ∧ SqL K H a xs ∧ ∀ p, H p = none → Q (.ref p) (upd H p (.lst xs.reverse))
theorem vop_revL {W : Wd} : VOp W (rr1 (rRevL W.K)) opRevL := by
  intro H G rs vs A r Q gh rep nd ga e k
  unfold opRevL at e
  split at e
  · cases e
    obtain ⟨v, rfl, h1⟩ := repL1 rep
    obtain ⟨a, us, rfl, ha, ra⟩ := rep_lst gh h1 (lookAt_same ga) fun a z => lookAt_in z
    refine ⟨a, us, rfl, SqL.of ha, fun p hp => ?_⟩
    obtain ⟨G', q⟩ := vpost_new gh ga hp (reps_revF ra)
    exact k _ _ _ _ q
  · cases e
theorem ev_revL {W : Wd} {X : Cx} {e : Expr} {f : SE} {ta : TE} {k : Nat} {p1 p2 p3 pos : Pos} (ha : EvE W X e f ta) (hK : X.K = W.K := by rfl) :
    EvE W X (.Subscript e (.Slice none none (some (.UnaryOp .USub (.Constant (.int 1) k p1) p2)) p3) pos) (sApp1 opRevL f) (tUn (rRevL W.K) ta) :=
  ⟨hK ▸ pe_revL ha.1, sim_app1 ha.2 vop_revL⟩
end Tr

/-! TrMath: reckoning with the tree meanings. -/
namespace Tr
open PySem L2
section
variable {ρ ρ1 ρ2 : Env} {f g h : SE} {fs : SA} {s u : SB} {b c : SS} {i j : Nat} {d : D} {m : Mode}
@[simp] theorem relock_self (a : Option Slot) : relock a a = a := by cases a <;> rfl
@[simp] theorem relock_noneR (a : Option Slot) : relock a none = none := by cases a <;> rfl
@[simp] theorem relock_noneL (a : Option Slot) : relock none a = a := by cases a <;> rfl
@[simp] theorem frz2_noneR (a : Option Slot) : frz2 a none = none := by cases a <;> rfl
@[simp] theorem frz2_noneL (a : Option Slot) : frz2 none a = a := by cases a <;> rfl
@[simp] theorem restore_self : ∀ ρ : Env, restore ρ ρ = ρ
  | [] => rfl
  | a :: ρ => by simp [restore, restore_self ρ]
@[simp] theorem frz2_self (a : Option Slot) : frz2 a a = a := by
  cases a with
  | none => rfl
  | some s => simp [frz2]
@[simp] theorem freeze2_self : ∀ ρ : Env, freeze2 ρ ρ = ρ
  | [] => rfl
  | a :: ρ => by simp [freeze2, freeze2_self ρ]
@[simp] theorem restore_cons {a b : Option Slot} : restore (a :: ρ) (b :: ρ1) = relock a b :: restore ρ ρ1 := rfl
@[simp] theorem freeze2_cons {a b : Option Slot} : freeze2 (a :: ρ) (b :: ρ1) = frz2 a b :: freeze2 ρ ρ1 := rfl
@[simp] theorem relock_some {a b : Slot} : relock (some a) (some b) = some { b with lk := a.lk } := rfl
@[simp] theorem frz2_some {a b : Slot} : frz2 (some a) (some b) = if b.lk && !a.lk then some ⟨.F, false, b.d⟩ else some b := rfl
@[simp] theorem flat_int {a : Int} : D.flat (.int a) = true := rfl
@[simp] theorem flat_bl {a : Bool} : D.flat (.bl a) = true := rfl
@[simp] theorem flat_non : D.flat .non = true := rfl
@[simp] theorem flat_str {a : Str} : D.flat (.str a) = true := rfl
@[simp] theorem flat_ty {a : String} : D.flat (.ty a) = true := rfl
@[simp] theorem flat_lst {a : List D} : D.flat (.lst a) = false := rfl
@[simp] theorem flat_scr {a : List Int} : D.flat (.scr a) = false := rfl
@[simp] theorem flat_tup {a : List D} : D.flat (.tup a) = D.flats a := rfl
@[simp] theorem flat_ins {c : String} {a : List (Str × D)} : D.flat (.ins c a) = false := rfl
@[simp] theorem flats_nil : D.flats [] = true := rfl
@[simp] theorem flats_cons {a : D} {r : List D} : D.flats (a :: r) = (a.flat && D.flats r) := rfl
theorem flats_ints : ∀ xs : List Int, D.flats (xs.map D.int) = true
  | [] => rfl
  | _ :: xs => by simp [flats_ints xs]
@[simp] theorem sCon_ap : sCon d ρ = some (⟨.O, d⟩, ρ) := rfl
@[simp] theorem sNil_ap : sNil ρ = some ([], ρ) := rfl
@[simp] theorem sVar_ap : sVar i ρ = (match ρ[i]? with
  | some (some s) => if s.d.flat then some (⟨.O, s.d⟩, ρ) else if s.m = .F then some (⟨.F, s.d⟩, ρ) else some (⟨.F, s.d⟩, ρ.set i (some { s with lk := true }))
  | _ => none) := rfl
@[simp] theorem sMove_ap : sMove i ρ = (match ρ[i]? with
  | some (some s) => if s.d.flat then some (⟨.O, s.d⟩, ρ) else if s.m = .F then some (⟨.F, s.d⟩, ρ) else if s.lk then none else some (⟨s.m, s.d⟩, ρ.set i none)
  | _ => none) := rfl
@[simp] theorem sCons_ap : sCons f fs ρ = (match f ρ with
  | some (r, ρ1) => (match fs ρ1 with
    | some (rs, ρ2) => some (r :: rs, ρ2)
    | none => none)
  | none => none) := rfl
@[simp] theorem sApp_ap {o : List Val → Option Val} : sApp o fs ρ = (match fs ρ with
  | some (rs, ρ1) => (match o rs with
    | some r => if r.m = .O then some (r, restore ρ ρ1) else some (r, ρ1)
    | none => none)
  | none => none) := by
  unfold sApp sealE
  cases e : fs ρ with
  | none => simp [e]
  | some x =>
    obtain ⟨rs, ρ1⟩ := x
    cases e2 : o rs <;> simp [e, e2]
@[simp] theorem sApp2_ap {o : List Val → Option Val} : sApp2 o f g ρ = sApp o (sCons f (sCons g sNil)) ρ := rfl
@[simp] theorem sApp1_ap {o : List Val → Option Val} : sApp1 o f ρ = sApp o (sCons f sNil) ρ := rfl
@[simp] theorem sTest_ap : sTest f ρ = (match f ρ with
  | some (⟨_, .bl b⟩, ρ1) => some (b, restore ρ ρ1)
  | _ => none) := rfl
@[simp] theorem sNot_ap : sNot s ρ = (match s ρ with
  | some (b, ρ1) => some (!b, ρ1)
  | none => none) := rfl
@[simp] theorem sAnd_ap : sAnd s u ρ = (match s ρ with
  | some (true, ρ1) => u ρ1
  | some (false, ρ1) => some (false, ρ1)
  | none => none) := rfl
@[simp] theorem sOr_ap : sOr s u ρ = (match s ρ with
  | some (true, ρ1) => some (true, ρ1)
  | some (false, ρ1) => u ρ1
  | none => none) := rfl
@[simp] theorem sIfE_ap : sIfE s f g ρ = (match s ρ with
  | some (true, ρ1) => f ρ1
  | some (false, ρ1) => g ρ1
  | none => none) := rfl
@[simp] theorem sAndV_ap : sAndV f g ρ = (match f ρ with
  | some (⟨_, .bl true⟩, ρ1) => g ρ1
  | some (⟨_, .bl false⟩, ρ1) => some (⟨.O, .bl false⟩, ρ1)
  | _ => none) := rfl
@[simp] theorem sOrV_ap : sOrV f g ρ = (match f ρ with
  | some (⟨_, .bl true⟩, ρ1) => some (⟨.O, .bl true⟩, ρ1)
  | some (⟨_, .bl false⟩, ρ1) => g ρ1
  | _ => none) := rfl
@[simp] theorem sNotV_ap : sNotV f ρ = (match f ρ with
  | some (⟨_, .bl b⟩, ρ1) => some (⟨.O, .bl (!b)⟩, ρ1)
  | _ => none) := rfl
@[simp] theorem sAsg_ap {t : STg} : sAsg t f ρ = (match f ρ with
  | some (r, ρ1) => (match t r (settle ρ r ρ1) with
    | some ρ2 => some (.nx ρ2)
    | none => none)
  | none => none) := rfl
@[simp] theorem sSet_ap : sSet i f ρ = (match f ρ with
  | some (r, ρ1) => (match setSlot (settle ρ r ρ1) i r with
    | some ρ2 => some (.nx ρ2)
    | none => none)
  | none => none) := rfl
@[simp] theorem sPar_ap : sPar i j fs ρ = (match fs ρ with
  | some ([r, r2], ρ1) =>
    (match setSlot (if allO [r, r2] then restore ρ ρ1 else freeze2 ρ ρ1) i r with
    | some ρ2 =>
      (match setSlot ρ2 j r2 with
      | some ρ3 => some (.nx ρ3)
      | none => none)
    | none => none)
  | _ => none) := rfl
@[simp] theorem sDrop_ap : sDrop f ρ = (match f ρ with
  | some (_, ρ1) => some (.nx (restore ρ ρ1))
  | none => none) := rfl
@[simp] theorem sRet_ap : sRet f ρ = (match f ρ with
  | some (r, ρ1) => some (.rt r ρ1)
  | none => none) := rfl
@[simp] theorem sSkip_ap : sSkip ρ = some (.nx ρ) := rfl
@[simp] theorem sBreak_ap : sBreak ρ = some (.bk ρ) := rfl
@[simp] theorem sCont_ap : sCont ρ = some (.ct ρ) := rfl
@[simp] theorem sYes_ap : sYes ρ = some (true, ρ) := rfl
@[simp] theorem sSeq_ap : sSeq b c ρ = (match b ρ with
  | some (.nx ρ1) => c ρ1
  | r => r) := rfl
@[simp] theorem sIf_ap : sIf s b c ρ = (match s ρ with
  | some (true, ρ1) => b ρ1
  | some (false, ρ1) => c ρ1
  | none => none) := rfl
@[simp] theorem sFor_ap {src : SI} {t : STg} : sFor src t b ρ = (match src ρ with
  | some (ds, ρ1) => forGo t b ds (freeze2 ρ ρ1)
  | none => none) := rfl
@[simp] theorem sGName_ap {r : Val} : sGName i r ρ = setSlot ρ i r := rfl
@[simp] theorem sGNil_ap {m : Mode} : sGNil [] m ρ = some ρ := rfl
@[simp] theorem sGCons_ap {t : STg} {ts : List D → Mode → Env → Option Env} {ds : List D} : sGCons t ts (d :: ds) m ρ = (match t (nrm m d) ρ with
  | some ρ1 => ts ds m ρ1
  | none => none) := rfl
@[simp] theorem sGTup_ap {ts : List D → Mode → Env → Option Env} {ds : List D} : sGTup ts ⟨m, .tup ds⟩ ρ = ts ds m ρ := rfl
theorem iSq_ap : iSq f ρ = (match f ρ with
  | some (r, ρ1) => (match r.d with
    | .lst ds => some (ds, ρ1)
    | .tup ds => some (ds, ρ1)
    | _ => none)
  | none => none) := rfl
@[simp] theorem iRange1_ap : iRange1 fs ρ = (match fs ρ with
  | some ([⟨_, .int j⟩], ρ1) => if small j then some (up 0 j.toNat, ρ1) else none
  | _ => none) := rfl
@[simp] theorem iRange2_ap : iRange2 fs ρ = (match fs ρ with
  | some ([⟨_, .int i⟩, ⟨_, .int j⟩], ρ1) => if small i && small j then some (up i (j - i).toNat, ρ1) else none
  | _ => none) := rfl
@[simp] theorem sChain_ap {p q : Int → Int → Bool} : sChain p q f g h ρ = (match f ρ with
  | some (⟨_, .int a⟩, ρ1) =>
    (match g ρ1 with
    | some (⟨_, .int b⟩, ρ2) =>
      if p a b then
        (match h ρ2 with
        | some (⟨_, .int c⟩, ρ3) => some (⟨.O, .bl (q b c)⟩, ρ3)
        | _ => none)
      else some (⟨.O, .bl false⟩, ρ2)
    | _ => none)
  | _ => none) := rfl
@[simp] theorem nrm_int {a : Int} : nrm m (.int a) = ⟨.O, .int a⟩ := rfl
@[simp] theorem nrm_bl {a : Bool} : nrm m (.bl a) = ⟨.O, .bl a⟩ := rfl
@[simp] theorem nrm_non : nrm m .non = ⟨.O, .non⟩ := rfl
@[simp] theorem nrm_lst {a : List D} : nrm m (.lst a) = ⟨m, .lst a⟩ := rfl
@[simp] theorem nrm_O : nrm .O d = ⟨.O, d⟩ := by unfold nrm; split <;> rfl
theorem nrm_flat (h : d.flat = true) : nrm m d = ⟨.O, d⟩ := by unfold nrm; rw [if_pos h]
@[simp] theorem opFn_ap {o : List D → Option Val} {rs : List Val} : opFn o rs = o (rs.map fun x => x.d) := rfl
/-! loops -/
theorem while_false (h : s ρ = some (false, ρ1)) : sWhile s b ρ = some (.nx ρ1) := by
  rw [sWhile_iff]
  exact ⟨1, by simp [whileF, h]⟩
theorem while_step (h : s ρ = some (true, ρ1)) (h2 : b ρ1 = some (.nx ρ2)) : sWhile s b ρ = sWhile s b ρ2 := by
  apply Option.ext
  intro r
  rw [sWhile_iff, sWhile_iff]
  constructor
  · rintro ⟨n, e⟩
    cases n with
    | zero => cases e
    | succ n =>
      refine ⟨n, ?_⟩
      simpa [whileF, h, h2] using e
  · rintro ⟨n, e⟩
    refine ⟨n + 1, ?_⟩
    simpa [whileF, h, h2] using e
theorem while_ret {r : Val} (h : s ρ = some (true, ρ1)) (h2 : b ρ1 = some (.rt r ρ2)) : sWhile s b ρ = some (.rt r ρ2) := by
  rw [sWhile_iff]
  exact ⟨1, by simp [whileF, h, h2]⟩
@[simp] theorem forGo_nil {t : STg} : forGo t b [] ρ = some (.nx ρ) := rfl
@[simp] theorem forGo_cons {t : STg} {ds : List D} : forGo t b (d :: ds) ρ = (match t (nrm .F d) ρ with
  | some ρ1 =>
    (match b ρ1 with
    | some (.nx ρ2) => forGo t b ds ρ2
    | some (.ct ρ2) => forGo t b ds ρ2
    | some (.bk ρ2) => some (.nx ρ2)
    | some (.rt r ρ2) => some (.rt r ρ2)
    | none => none)
  | none => none) := rfl
/-- an invariant of a for -/
theorem for_inv {t : STg} (P : Nat → Env → Prop) : ∀ (ds : List D) (k0 : Nat) (ρ : Env), P k0 ρ →
    (∀ k d ρ, ds[k]? = some d → P (k0 + k) ρ → ∃ ρ1 ρ2, t (nrm .F d) ρ = some ρ1 ∧ (b ρ1 = some (.nx ρ2) ∨ b ρ1 = some (.ct ρ2)) ∧ P (k0 + k + 1) ρ2) →
    ∃ ρ', forGo t b ds ρ = some (.nx ρ') ∧ P (k0 + ds.length) ρ'
  | [], k0, ρ, h0, _ => ⟨ρ, rfl, h0⟩
  | d :: ds, k0, ρ, h0, hs => by
    obtain ⟨ρ1, ρ2, e1, e2, h1⟩ := hs 0 d ρ rfl h0
    obtain ⟨ρ', e3, h3⟩ := for_inv P ds (k0 + 1) ρ2 h1 fun k d ρ e p => by
      have q := hs (k + 1) d ρ e (by rw [show k0 + (k + 1) = k0 + 1 + k by omega]; exact p)
      rw [show k0 + (k + 1) = k0 + 1 + k by omega] at q
      exact q
    refine ⟨ρ', ?_, by rw [List.length_cons, show k0 + (ds.length + 1) = k0 + 1 + ds.length by omega]; exact h3⟩
    rw [forGo_cons, e1]
    rcases e2 with e2 | e2
    · simp [e2, e3]
    · simp [e2, e3]
@[simp] theorem up_len {lo : Int} {n : Nat} : (up lo n).length = n := by simp [up]
theorem up_get {lo : Int} {n k : Nat} {d : D} (h : (up lo n)[k]? = some d) : k < n ∧ d = .int (lo + k) := by
  unfold up at h
  rw [List.getElem?_map] at h
  by_cases hk : k < n
  · rw [List.getElem?_range hk] at h
    cases h
    exact ⟨hk, rfl⟩
  · rw [List.getElem?_eq_none (by simpa using hk)] at h
    cases h
/-! ints -/
theorem bitOk_of {a b : Int} {n m : Nat} (ha : a.natAbs < 2 ^ n) (hb : b.natAbs < 2 ^ m) (h : n + m ≤ 1000000) : bitOk a b = true := by
  apply ok_of
  have lg : ∀ (x k : Nat), x < 2 ^ k → x.log2 ≤ k ∧ (0 < k → x.log2 < k) := fun x k hx => by
    by_cases z : x = 0
    · subst z
      exact ⟨by simp [Nat.log2_zero], fun hk => by simpa [Nat.log2_zero] using hk⟩
    · have := (Nat.log2_lt z).mpr hx
      exact ⟨Nat.le_of_lt this, fun _ => this⟩
  have h1 := lg _ _ ha
  have h2 := lg _ _ hb
  omega
theorem log2_of {a : Nat} {n : Nat} (ha : a < 2 ^ n) (h0 : 0 < n) : a.log2 < n := by
  by_cases z : a = 0
  · subst z
    simpa [Nat.log2_zero] using h0
  · exact (Nat.log2_lt z).mpr ha
theorem mul_lt_pow {a b : Int} {n m : Nat} (ha : a.natAbs < 2 ^ n) (hb : b.natAbs < 2 ^ m) : (a * b).natAbs < 2 ^ (n + m) := by
  rw [Int.natAbs_mul, Nat.pow_add]
  exact Nat.mul_lt_mul'' ha hb
theorem add_lt_pow {a b : Int} {n : Nat} (ha : a.natAbs < 2 ^ n) (hb : b.natAbs < 2 ^ n) : (a + b).natAbs < 2 ^ (n + 1) := by
  rw [Nat.pow_succ]
  omega
theorem sub_lt_pow {a b : Int} {n : Nat} (ha : a.natAbs < 2 ^ n) (hb : b.natAbs < 2 ^ n) : (a - b).natAbs < 2 ^ (n + 1) := by
  rw [Nat.pow_succ]
  omega
theorem lt_pow_mono {a n m : Nat} (h : a < 2 ^ n) (hm : n ≤ m) : a < 2 ^ m := Nat.lt_of_lt_of_le h (Nat.pow_le_pow_right (by decide) hm)
end
/-! == -/
mutual
/-- plain data, at most so deep -/
def D.good : Nat → D → Bool
  | _, .non => true
  | _, .bl _ => true
  | _, .int _ => true
  | _, .str x => x.cps.all (· < 0x110000)
  | 0, _ => false
  | n + 1, .lst xs => D.goods n xs
  | n + 1, .tup xs => D.goods n xs
  | _, _ => false
def D.goods : Nat → List D → Bool
  | _, [] => true
  | n, x :: xs => D.good n x && D.goods n xs
end
mutual
theorem good_ok : ∀ (n : Nat) (d : D), D.good n d = true → d.plain = true ∧ d.py.canLay0 = true ∧ d.py.depth ≤ n + 1
  | n, .non, _ => by simp [D.plain, D.py, PyData.canLay0, PyData.depth]
  | n, .bl _, _ => by simp [D.plain, D.py, PyData.canLay0, PyData.depth]
  | n, .int _, _ => by simp [D.plain, D.py, PyData.canLay0, PyData.depth]
  | n, .str x, h => by
    simp only [D.good] at h
    refine ⟨by simp [D.plain], ?_, by simp [D.py, PyData.depth]⟩
    simp only [D.py, PyData.canLay0]
    exact h
  | 0, .lst _, h => by simp [D.good] at h
  | 0, .tup _, h => by simp [D.good] at h
  | n + 1, .lst xs, h => by
    simp only [D.good] at h
    obtain ⟨h1, h2, h3⟩ := goods_ok n xs h
    exact ⟨by simpa [D.plain] using h1, by simpa [D.py, PyData.canLay0] using h2, by simp only [D.py, PyData.depth]; omega⟩
  | n + 1, .tup xs, h => by
    simp only [D.good] at h
    obtain ⟨h1, h2, h3⟩ := goods_ok n xs h
    exact ⟨by simpa [D.plain] using h1, by simpa [D.py, PyData.canLay0] using h2, by simp only [D.py, PyData.depth]; omega⟩
  | n, .ty _, h => by cases n <;> simp [D.good] at h
  | n, .cl _, h => by cases n <;> simp [D.good] at h
  | n, .exc _, h => by cases n <;> simp [D.good] at h
  | n, .scr _, h => by cases n <;> simp [D.good] at h
  | n, .ins _ _, h => by cases n <;> simp [D.good] at h
theorem goods_ok : ∀ (n : Nat) (ds : List D), D.goods n ds = true → D.plains ds = true ∧ PyData.canLayAll0 (D.pys ds) = true ∧ PyData.depthAll (D.pys ds) ≤ n + 1
  | n, [], _ => by simp [D.plains, D.pys, PyData.canLayAll0, PyData.depthAll]
  | n, x :: xs, h => by
    rw [D.goods, Bool.and_eq_true] at h
    obtain ⟨h1, h2, h3⟩ := good_ok n x h.1
    obtain ⟨q1, q2, q3⟩ := goods_ok n xs h.2
    refine ⟨by simp [D.plains, h1, q1], by simp [D.pys, PyData.canLayAll0, h2, q2], ?_⟩
    simp only [D.pys, PyData.depthAll]
    omega
end
theorem pyOk_of {n : Nat} {d : D} (h : D.good n d = true) (hn : n ≤ 60) : pyOk d = true := by
  obtain ⟨h1, h2, h3⟩ := good_ok n d h
  unfold pyOk PySem.SeqAt.shaped
  simp only [h1, h2, Bool.true_and, decide_eq_true_eq]
  omega
@[simp] theorem pyOk_int {a : Int} : pyOk (.int a) = true := pyOk_of (n := 0) rfl (by decide)
@[simp] theorem pyOk_bl {a : Bool} : pyOk (.bl a) = true := pyOk_of (n := 0) rfl (by decide)
@[simp] theorem pyOk_non : pyOk .non = true := pyOk_of (n := 0) rfl (by decide)
theorem goods_ints (n : Nat) : ∀ xs : List Int, D.goods n (xs.map D.int) = true
  | [] => by simp [D.goods]
  | x :: xs => by cases n <;> simp [D.goods, D.good, goods_ints _ xs]
@[simp] theorem pyOk_ints {xs : List Int} : pyOk (.lst (xs.map D.int)) = true := pyOk_of (n := 1) (by simp [D.good, goods_ints]) (by decide)
mutual
theorem eqv_self : ∀ d : D, d.plain = true → PyData.eqv d.py d.py = true
  | .non, _ => by simp [D.py, PyData.eqv]
  | .bl _, _ => by simp [D.py, PyData.eqv]
  | .int _, _ => by simp [D.py, PyData.eqv]
  | .str _, _ => by simp [D.py, PyData.eqv]
  | .lst xs, h => by
    simp only [D.py, PyData.eqv]
    exact eqvs_self xs (by simpa [D.plain] using h)
  | .tup xs, h => by
    simp only [D.py, PyData.eqv]
    exact eqvs_self xs (by simpa [D.plain] using h)
  | .scr ns, _ => by
    simp only [D.py, PyData.eqv]
    exact eqvi_self ns
  | .ty _, h => by simp [D.plain] at h
  | .cl _, h => by simp [D.plain] at h
  | .exc _, h => by simp [D.plain] at h
  | .ins _ _, h => by simp [D.plain] at h
theorem eqvs_self : ∀ ds : List D, D.plains ds = true → PyData.eqvAll (D.pys ds) (D.pys ds) = true
  | [], _ => by simp [D.pys, PyData.eqvAll]
  | x :: xs, h => by
    rw [D.plains, Bool.and_eq_true] at h
    simp [D.pys, PyData.eqvAll, eqv_self x h.1, eqvs_self xs h.2]
theorem eqvi_self : ∀ ns : List Int, PyData.eqvAll (ns.map PyData.int) (ns.map PyData.int) = true
  | [] => by simp [PyData.eqvAll]
  | x :: xs => by simp [PyData.eqvAll, PyData.eqv, eqvi_self xs]
end
@[simp] theorem eqv_int {a b : Int} : PyData.eqv (.int a) (.int b) = (a == b) := by simp [PyData.eqv]
theorem eqv_ints : ∀ {a b : List Int}, PyData.eqvAll (D.pys (a.map D.int)) (D.pys (b.map D.int)) = decide (a = b)
  | [], [] => by simp [D.pys, PyData.eqvAll]
  | [], _ :: _ => by simp [D.pys, PyData.eqvAll]
  | _ :: _, [] => by simp [D.pys, PyData.eqvAll]
  | x :: xs, y :: ys => by
    simp only [List.map_cons, D.pys, PyData.eqvAll, D.py, eqv_int, eqv_ints, List.cons.injEq]
    by_cases h : x = y <;> by_cases h2 : xs = ys <;> simp [h, h2]
@[simp] theorem py_int {a : Int} : D.py (.int a) = .int a := by simp [D.py]
@[simp] theorem py_bl {a : Bool} : D.py (.bl a) = .bool a := by simp [D.py]
@[simp] theorem py_non : D.py .non = .none := by simp [D.py]
@[simp] theorem py_lst {a : List D} : D.py (.lst a) = .list (D.pys a) := by simp [D.py]
@[simp] theorem py_tup {a : List D} : D.py (.tup a) = .tuple (D.pys a) := by simp [D.py]
@[simp] theorem pys_nil : D.pys [] = [] := by simp [D.pys]
@[simp] theorem pys_cons {x : D} {xs : List D} : D.pys (x :: xs) = D.py x :: D.pys xs := by simp [D.pys]
theorem atI_cons_zero {α : Type} {x : α} {xs : List α} : atI (x :: xs) 0 = some x := by simp [atI, ixN]
/-! division, the greatest common divisor -/
theorem gcd_fmod (a b : Int) : Int.gcd b (a.fmod b) = Int.gcd a b := by
  rw [Int.fmod_def, Int.gcd_sub_mul_left_right, Int.gcd_comm]
theorem fmod_range {a b : Int} (h : 0 < b) : 0 ≤ a.fmod b ∧ a.fmod b < b := ⟨Int.fmod_nonneg_of_pos a h, Int.fmod_lt_of_pos a h⟩
theorem fmod_lt {a b : Int} (h : b ≠ 0) : (a.fmod b).natAbs < b.natAbs := by
  by_cases h0 : 0 < b
  · have := fmod_range (a := a) h0
    omega
  · have q := Int.fmod_def a b
    have e : a.fmod b = -((-a).fmod (-b)) := by
      rw [Int.fmod_def, Int.fmod_def, Int.neg_fdiv_neg, Int.neg_mul]; omega
    have := fmod_range (a := -a) (b := -b) (by omega)
    omega
/-- the loop of the greatest common divisor -/
theorem gcd_loop : ∀ (n : Nat) (a b : Int) (m1 m2 : Mode), b.natAbs ≤ n → ∃ g m3 m4,
    sWhile (sTest (sApp2 opNe (sVar 1) (sCon (.int 0)))) (sPar 0 1 (sCons (sVar 1) (sCons (sApp2 opMod (sVar 0) (sVar 1)) sNil))) [some ⟨m1, false, .int a⟩, some ⟨m2, false, .int b⟩] =
      some (.nx [some ⟨m3, false, .int g⟩, some ⟨m4, false, .int 0⟩]) ∧ g.natAbs = Int.gcd a b
  | n, a, b, m1, m2, h => by
    by_cases hb : b = 0
    · subst hb
      refine ⟨a, m1, m2, while_false ?_, by simp⟩
      simp [sTest_ap, sApp2_ap, sApp_ap, sCons_ap, sVar_ap, opNe]
    · cases n with
      | zero => omega
      | succ n =>
        have hlt := fmod_lt (a := a) hb
        obtain ⟨g, m3, m4, e, hg⟩ := gcd_loop n b (a.fmod b) .O .O (by omega)
        refine ⟨g, m3, m4, ?_, by rw [hg, gcd_fmod]⟩
        rw [← e]
        refine while_step (ρ1 := [some ⟨m1, false, .int a⟩, some ⟨m2, false, .int b⟩]) ?_ ?_
        · simp [sTest_ap, sApp2_ap, sApp_ap, sCons_ap, sVar_ap, opNe, hb]
        · simp [sPar_ap, sApp2_ap, sApp_ap, sCons_ap, sVar_ap, opMod, hb, allO, setSlot]
/-- the run goes on, into an environment of this kind -/
def nxIs : Option Out → (Env → Prop) → Prop
  | some (.nx ρ), p => p ρ
  | some (.ct ρ), p => p ρ
  | _, _ => False
@[simp] theorem nxIs_some {ρ : Env} {p : Env → Prop} : nxIs (some (.nx ρ)) p = p ρ := rfl
@[simp] theorem nxIs_ct {ρ : Env} {p : Env → Prop} : nxIs (some (.ct ρ)) p = p ρ := rfl
theorem nxIs_ex {x : Option Out} {p : Env → Prop} (h : nxIs x p) : ∃ ρ, (x = some (.nx ρ) ∨ x = some (.ct ρ)) ∧ p ρ :=
  match x, h with
  | some (.nx ρ), h => ⟨ρ, .inl rfl, h⟩
  | some (.ct ρ), h => ⟨ρ, .inr rfl, h⟩
theorem fmod_ok {a b : Int} {m p : Mode} (h : b ≠ 0) : opMod [⟨m, .int a⟩, ⟨p, .int b⟩] = some ⟨.O, .int (a.fmod b)⟩ := by simp [opMod, h]
theorem log2_ok {a n : Nat} (ha : a < 2 ^ n) (h0 : 0 < n) (hn : n ≤ 9000) : a.log2 < 9000 := Nat.lt_of_lt_of_le (log2_of ha h0) hn
/-! what is compared -/
@[simp] theorem good_int {n : Nat} {a : Int} : D.good n (.int a) = true := by cases n <;> simp [D.good]
@[simp] theorem good_bl {n : Nat} {a : Bool} : D.good n (.bl a) = true := by cases n <;> simp [D.good]
@[simp] theorem good_non {n : Nat} : D.good n .non = true := by cases n <;> simp [D.good]
@[simp] theorem good_lst {n : Nat} {a : List D} : D.good (n + 1) (.lst a) = D.goods n a := by simp [D.good]
@[simp] theorem good_tup {n : Nat} {a : List D} : D.good (n + 1) (.tup a) = D.goods n a := by simp [D.good]
@[simp] theorem goods_nil {n : Nat} : D.goods n [] = true := by simp [D.goods]
@[simp] theorem goods_cons {n : Nat} {a : D} {r : List D} : D.goods n (a :: r) = (D.good n a && D.goods n r) := by simp [D.goods]
theorem pyOk_good {d : D} (h : D.good 60 d = true) : pyOk d = true := pyOk_of h (by decide)
theorem pyOk_lst {a : List D} (h : D.goods 59 a = true) : pyOk (.lst a) = true := pyOk_good (by simp only [good_lst, h])
theorem pyOk_tup {a : List D} (h : D.goods 59 a = true) : pyOk (.tup a) = true := pyOk_good (by simp only [good_tup, h])
@[simp] theorem eqv_bl {a b : Bool} : PyData.eqv (.bool a) (.bool b) = (a == b) := by cases a <;> cases b <;> simp [PyData.eqv]
@[simp] theorem eqv_lst {a b : List PyData} : PyData.eqv (.list a) (.list b) = PyData.eqvAll a b := by simp [PyData.eqv]
@[simp] theorem eqv_tup {a b : List PyData} : PyData.eqv (.tuple a) (.tuple b) = PyData.eqvAll a b := by simp [PyData.eqv]
@[simp] theorem eqvAll_nil : PyData.eqvAll [] [] = true := by simp [PyData.eqvAll]
@[simp] theorem eqvAll_cons {x y : PyData} {a b : List PyData} : PyData.eqvAll (x :: a) (y :: b) = (PyData.eqv x y && PyData.eqvAll a b) := by simp [PyData.eqvAll]
end Tr

/-! TrOps: what the operations give, as simp lemmas; lists of like things; comprehensions. -/
namespace Tr
open PySem L2
section
variable {m p q : Mode} {a b : Int} {ρ ρ1 ρ2 : Env} {α : Type}
@[simp] theorem setSlot_ap {i : Nat} {r : Val} : setSlot ρ i r = if i < ρ.length then some (ρ.set i (some ⟨r.m, false, r.d⟩)) else none := rfl
@[simp] theorem settle_ap {r : Val} : settle ρ r ρ1 = if r.m = .O then restore ρ ρ1 else freeze2 ρ ρ1 := rfl
@[simp] theorem allO_nil : allO [] = true := rfl
@[simp] theorem allO_cons {r : Val} {rs : List Val} : allO (r :: rs) = (decide (r.m = .O) && allO rs) := rfl
@[simp] theorem allS_nil : allS [] = true := rfl
@[simp] theorem allS_cons {r : Val} {rs : List Val} : allS (r :: rs) = ((decide (r.m = .S) || r.d.flat) && allS rs) := rfl
@[simp] theorem par_int : par (.int a) = ⟨.O, false, .int a⟩ := rfl
@[simp] theorem par_bl {x : Bool} : par (.bl x) = ⟨.O, false, .bl x⟩ := rfl
@[simp] theorem par_non : par .non = ⟨.O, false, .non⟩ := rfl
@[simp] theorem par_str {x : Str} : par (.str x) = ⟨.O, false, .str x⟩ := rfl
@[simp] theorem par_lst {x : List D} : par (.lst x) = ⟨.F, false, .lst x⟩ := rfl
@[simp] theorem par_scr {x : List Int} : par (.scr x) = ⟨.F, false, .scr x⟩ := rfl
@[simp] theorem par_tup {x : List D} : par (.tup x) = ⟨if D.flats x = true then .O else .F, false, .tup x⟩ := by
  unfold par nrm
  rw [flat_tup]
  split <;> simp
@[simp] theorem nrm_str {x : Str} : nrm m (.str x) = ⟨.O, .str x⟩ := rfl
@[simp] theorem nrm_scr {x : List Int} : nrm m (.scr x) = ⟨m, .scr x⟩ := rfl
theorem nrm_tup {x : List D} : nrm m (.tup x) = if D.flats x = true then ⟨.O, .tup x⟩ else ⟨m, .tup x⟩ := rfl
@[simp] theorem nrm_tupT {x : List D} (h : D.flats x = true) : nrm m (.tup x) = ⟨.O, .tup x⟩ := by rw [nrm_tup, if_pos h]
@[simp] theorem nrm_tupF {x : List D} (h : D.flats x = false) : nrm m (.tup x) = ⟨m, .tup x⟩ := by rw [nrm_tup, h]; rfl
theorem nrm_d {d : D} : (nrm m d).d = d := by unfold nrm; split <;> rfl
@[simp] theorem ok_true {P : Prop} (h : P) : ok P = true := ok_of h
@[simp] theorem small_true (h : -(2 ^ 62) ≤ a ∧ a < 2 ^ 62) : small a = true := ok_of h
@[simp] theorem divOk_true (h0 : 0 < a) (h : a < 2 ^ 64) : divOk a = true := ok_of ⟨by omega, by
  have := log2_of (a := a.natAbs) (n := 64) (by omega) (by decide)
  omega⟩
theorem divOk_of {n : Nat} (h0 : a ≠ 0) (h : a.natAbs < 2 ^ n) (hn : n ≤ 9000) : divOk a = true := ok_of ⟨h0, by
  by_cases z : n = 0
  · subst z; omega
  · have := log2_of h (by omega); omega⟩
@[simp] theorem opAdd_ii : opAdd [⟨m, .int a⟩, ⟨p, .int b⟩] = some ⟨.O, .int (a + b)⟩ := rfl
@[simp] theorem opSub_ii : opSub [⟨m, .int a⟩, ⟨p, .int b⟩] = some ⟨.O, .int (a - b)⟩ := rfl
@[simp] theorem opMul_ii : opMul [⟨m, .int a⟩, ⟨p, .int b⟩] = if bitOk a b = true then some ⟨.O, .int (a * b)⟩ else none := rfl
@[simp] theorem opMod_ii : opMod [⟨m, .int a⟩, ⟨p, .int b⟩] = if b = 0 then none else some ⟨.O, .int (a.fmod b)⟩ := rfl
@[simp] theorem opDiv_ii : opDiv [⟨m, .int a⟩, ⟨p, .int b⟩] = if divOk b = true then some ⟨.O, .int (a.fdiv b)⟩ else none := rfl
@[simp] theorem opPow_ii : opPow [⟨m, .int a⟩, ⟨p, .int b⟩] = if ok (0 ≤ b ∧ b ≤ 1000000 ∧ a.natAbs < 2 ^ 64) = true then some ⟨.O, .int (a ^ b.toNat)⟩ else none := rfl
@[simp] theorem opNeg_i : opNeg [⟨m, .int a⟩] = some ⟨.O, .int (-a)⟩ := rfl
@[simp] theorem opLt_ii : opLt [⟨m, .int a⟩, ⟨p, .int b⟩] = some ⟨.O, .bl (decide (a < b))⟩ := rfl
@[simp] theorem opLe_ii : opLe [⟨m, .int a⟩, ⟨p, .int b⟩] = some ⟨.O, .bl (decide (a ≤ b))⟩ := rfl
@[simp] theorem opGt_ii : opGt [⟨m, .int a⟩, ⟨p, .int b⟩] = some ⟨.O, .bl (decide (b < a))⟩ := rfl
@[simp] theorem opGe_ii : opGe [⟨m, .int a⟩, ⟨p, .int b⟩] = some ⟨.O, .bl (decide (b ≤ a))⟩ := rfl
@[simp] theorem opAbs_i : opAbs [⟨m, .int a⟩] = some ⟨.O, .int (if a < 0 then -a else a)⟩ := rfl
@[simp] theorem opMax2_ii : opMax2 [⟨m, .int a⟩, ⟨p, .int b⟩] = some ⟨.O, .int (max a b)⟩ := by
  have e : opMax2 [⟨m, .int a⟩, ⟨p, .int b⟩] = some ⟨.O, .int (if b > a then b else a)⟩ := rfl
  rw [e]
  congr 3
  split <;> omega
@[simp] theorem opMin2_ii : opMin2 [⟨m, .int a⟩, ⟨p, .int b⟩] = some ⟨.O, .int (min a b)⟩ := by
  have e : opMin2 [⟨m, .int a⟩, ⟨p, .int b⟩] = some ⟨.O, .int (if b < a then b else a)⟩ := rfl
  rw [e]
  congr 3
  split <;> omega
@[simp] theorem opInt_i : opInt [⟨m, .int a⟩] = some ⟨.O, .int a⟩ := rfl
@[simp] theorem opInt_b {x : Bool} : opInt [⟨m, .bl x⟩] = some ⟨.O, .int (if x then 1 else 0)⟩ := rfl
@[simp] theorem opIsN_ap {d : D} : opIsN [⟨m, d⟩, ⟨p, .non⟩] = some ⟨.O, .bl d.isNon⟩ := rfl
@[simp] theorem opNotN_ap {d : D} : opNotN [⟨m, d⟩, ⟨p, .non⟩] = some ⟨.O, .bl (!d.isNon)⟩ := rfl
@[simp] theorem isNon_non : D.isNon .non = true := rfl
@[simp] theorem isNon_int : D.isNon (.int a) = false := rfl
@[simp] theorem isNon_tup {x : List D} : D.isNon (.tup x) = false := rfl
@[simp] theorem isNon_lst {x : List D} : D.isNon (.lst x) = false := rfl
@[simp] theorem opIsB_ap {x y : Bool} : opIsB [⟨m, .bl x⟩, ⟨p, .bl y⟩] = some ⟨.O, .bl (decide (x = y))⟩ := rfl
@[simp] theorem opNotB_ap {x y : Bool} : opNotB [⟨m, .bl x⟩, ⟨p, .bl y⟩] = some ⟨.O, .bl (!decide (x = y))⟩ := rfl
@[simp] theorem opEq_ii : opEq [⟨m, .int a⟩, ⟨p, .int b⟩] = some ⟨.O, .bl (decide (a = b))⟩ := by simp [opEq]; rfl
@[simp] theorem opNe_ii : opNe [⟨m, .int a⟩, ⟨p, .int b⟩] = some ⟨.O, .bl (!decide (a = b))⟩ := by simp [opNe]; rfl
theorem opEq_ap {x y : Val} : opEq [x, y] = if (pyOk x.d && pyOk y.d) = true then some ⟨.O, .bl (PyData.eqv x.d.py y.d.py)⟩ else none := rfl
theorem opNe_ap {x y : Val} : opNe [x, y] = if (pyOk x.d && pyOk y.d) = true then some ⟨.O, .bl (!PyData.eqv x.d.py y.d.py)⟩ else none := rfl
@[simp] theorem opLen_tup {x : List D} : opLen [⟨m, .tup x⟩] = some ⟨.O, .int x.length⟩ := rfl
@[simp] theorem opLen_lst {x : List D} : opLen [⟨m, .lst x⟩] = some ⟨.O, .int x.length⟩ := rfl
@[simp] theorem opLen_scr {x : List Int} : opLen [⟨m, .scr x⟩] = some ⟨.O, .int x.length⟩ := rfl
theorem sizeLine_big : (1000000 : Nat) ≤ sizeLine := Nat.le_of_ble_eq_true rfl
@[simp] theorem ok_lit {n : Nat} (h : n ≤ 1000000) : ok (n ≤ sizeLine) = true := ok_of (by have := sizeLine_big; omega)
@[simp] theorem ok_litL {n : Nat} (h : n < 1000000) : ok (n < sizeLine) = true := ok_of (by have := sizeLine_big; omega)
theorem opTup_ap {rs : List Val} : opTup rs = if ok (rs.length ≤ sizeLine) = true then some (if allO rs then ⟨.O, .tup (ds rs)⟩ else if allS rs then ⟨.S, .tup (ds rs)⟩ else ⟨.F, .tup (ds rs)⟩) else none := rfl
@[simp] theorem opTup_1 {x : Val} : opTup [x] = some (if allO [x] then ⟨.O, .tup [x.d]⟩ else if allS [x] then ⟨.S, .tup [x.d]⟩ else ⟨.F, .tup [x.d]⟩) := by
  rw [opTup_ap, if_pos (ok_of (by have := sizeLine_big; simp; omega))]; rfl
@[simp] theorem opTup_2 {x y : Val} : opTup [x, y] = some (if allO [x, y] then ⟨.O, .tup [x.d, y.d]⟩ else if allS [x, y] then ⟨.S, .tup [x.d, y.d]⟩ else ⟨.F, .tup [x.d, y.d]⟩) := by
  rw [opTup_ap, if_pos (ok_of (by have := sizeLine_big; simp; omega))]; rfl
@[simp] theorem opTup_3 {x y z : Val} : opTup [x, y, z] = some (if allO [x, y, z] then ⟨.O, .tup [x.d, y.d, z.d]⟩ else if allS [x, y, z] then ⟨.S, .tup [x.d, y.d, z.d]⟩ else ⟨.F, .tup [x.d, y.d, z.d]⟩) := by
  rw [opTup_ap, if_pos (ok_of (by have := sizeLine_big; simp; omega))]; rfl
theorem opLst_ap {rs : List Val} (h : rs.length ≤ 1000) : opLst rs = some (if allO rs then ⟨.O, .lst (ds rs)⟩ else ⟨.S, .lst (ds rs)⟩) := by
  unfold opLst
  rw [if_pos (ok_of (by have := sizeLine_big; omega))]
@[simp] theorem ds_nil : ds [] = [] := rfl
@[simp] theorem ds_cons {x : Val} {r : List Val} : ds (x :: r) = x.d :: ds r := rfl
@[simp] theorem opLst_0 : opLst [] = some ⟨.O, .lst []⟩ := by rw [opLst_ap (by simp)]; rfl
@[simp] theorem opLst_1 {x : Val} : opLst [x] = some (if allO [x] then ⟨.O, .lst [x.d]⟩ else ⟨.S, .lst [x.d]⟩) := by rw [opLst_ap (by simp)]; rfl
@[simp] theorem opLst_2 {x y : Val} : opLst [x, y] = some (if allO [x, y] then ⟨.O, .lst [x.d, y.d]⟩ else ⟨.S, .lst [x.d, y.d]⟩) := by rw [opLst_ap (by simp)]; rfl
@[simp] theorem opLst_3 {x y z : Val} : opLst [x, y, z] = some (if allO [x, y, z] then ⟨.O, .lst [x.d, y.d, z.d]⟩ else ⟨.S, .lst [x.d, y.d, z.d]⟩) := by rw [opLst_ap (by simp)]; rfl
@[simp] theorem opLst_4 {x y z u : Val} : opLst [x, y, z, u] = some (if allO [x, y, z, u] then ⟨.O, .lst [x.d, y.d, z.d, u.d]⟩ else ⟨.S, .lst [x.d, y.d, z.d, u.d]⟩) := by rw [opLst_ap (by simp)]; rfl
@[simp] theorem opLst_len {rs : List Val} (h : rs.length ≤ 1000) : opLst rs = some (if allO rs then ⟨.O, .lst (ds rs)⟩ else ⟨.S, .lst (ds rs)⟩) := opLst_ap h
/-! what is walked, what is cut -/
def itemsOf : D → Option (List D)
  | .lst ds => some ds
  | .tup ds => some ds
  | _ => none
@[simp] theorem itemsOf_lst {x : List D} : itemsOf (.lst x) = some x := rfl
@[simp] theorem itemsOf_tup {x : List D} : itemsOf (.tup x) = some x := rfl
@[simp] theorem iSq_eq {f : SE} : iSq f ρ = (match f ρ with
  | some (r, ρ1) => (match itemsOf r.d with
    | some ds => some (ds, ρ1)
    | none => none)
  | none => none) := by
  unfold iSq
  cases f ρ with
  | none => rfl
  | some x =>
    obtain ⟨⟨m, d⟩, ρ1⟩ := x
    cases d <;> rfl
@[simp] theorem sONone_ap : sONone ρ = some (none, ρ) := rfl
@[simp] theorem sOSome_ap {f : SE} : sOSome f ρ = (match f ρ with
  | some (⟨_, .int i⟩, ρ1) => some (some i, restore ρ ρ1)
  | _ => none) := rfl
def cutOf (d : D) (lo hi : Option Int) : Option Val :=
  match d with
  | .lst xs => some (mkL (cut xs lo hi))
  | _ => none
@[simp] theorem sCut_ap {f : SE} {l u : Env → Option (Option Int × Env)} : sCut f l u ρ = (match f ρ with
  | some (r, ρ1) => (match l ρ1 with
    | some (lo, ρ2) => (match u ρ2 with
      | some (hi, ρ3) => (match cutOf r.d lo hi with
        | some r => if r.m = .O then some (r, restore ρ ρ3) else some (r, ρ3)
        | none => none)
      | none => none)
    | none => none)
  | none => none) := by
  unfold sCut sealE
  cases e1 : f ρ with
  | none => simp [e1]
  | some x =>
    obtain ⟨⟨m, d⟩, ρ1⟩ := x
    cases e2 : l ρ1 with
    | none => simp [e1, e2]
    | some y =>
      obtain ⟨lo, ρ2⟩ := y
      cases e3 : u ρ2 with
      | none => simp [e1, e2, e3]
      | some z =>
        obtain ⟨hi, ρ3⟩ := z
        cases d <;> simp [e1, e2, e3, cutOf]
theorem cut_to {β : Type} (xs : List β) (n : Nat) : cut xs none (some (n : Int)) = xs.take n := by
  unfold cut
  rw [HT.sIx_none, HT.sIx_nat]
  simp
/-! lists of like things -/
def dl (f : α → D) (xs : List α) : D := .lst (xs.map f)
abbrev il (xs : List Int) : D := dl D.int xs
variable {f : α → D} {xs ys : List α}
@[simp] theorem flat_dl : D.flat (dl f xs) = false := rfl
@[simp] theorem isNon_dl : D.isNon (dl f xs) = false := rfl
@[simp] theorem nrm_dl : nrm m (dl f xs) = ⟨m, dl f xs⟩ := rfl
@[simp] theorem par_dl : par (dl f xs) = ⟨.F, false, dl f xs⟩ := rfl
@[simp] theorem itemsOf_dl : itemsOf (dl f xs) = some (xs.map f) := rfl
@[simp] theorem opLen_dl : opLen [⟨m, dl f xs⟩] = some ⟨.O, .int xs.length⟩ := by simp [opLen, dl]
@[simp] theorem kidL_O : kidL .O = .O := rfl
@[simp] theorem kidL_F : kidL .F = .F := rfl
@[simp] theorem kidL_S : kidL .S = .F := rfl
theorem dl_inj {f : α → D} (hf : ∀ a b, f a = f b → a = b) {xs ys : List α} : (dl f xs = dl f ys) = (xs = ys) := by
  apply propext
  constructor
  · intro h
    simp only [dl, D.lst.injEq] at h
    exact List.map_inj_right (fun a b => hf a b) |>.mp h
  · rintro rfl; rfl
@[simp] theorem il_inj {xs ys : List Int} : (il xs = il ys) = (xs = ys) := dl_inj fun a b h => by cases h; rfl
theorem idx_dl {k : Nat} {x : α} (h : xs[k]? = some x) : opIdx [⟨m, dl f xs⟩, ⟨p, .int (k : Int)⟩] = some (nrm (kidL m) (f x)) := by
  obtain ⟨hk, ha⟩ := List.getElem?_eq_some_iff.mp h
  have h0 : ((k : Int)).toNat = k := by omega
  simp [opIdx, dl, atI, ixN, hk, h0, ha]
/-- the int at a place, 0 beyond -/
def nth (xs : List Int) (k : Nat) : Int := xs.getD k 0
theorem nth_get {xs : List Int} {k : Nat} {a : Int} (h : xs[k]? = some a) : nth xs k = a := by
  unfold nth
  rw [List.getD_eq_getElem?_getD, h]; rfl
theorem nth_lt {xs : List Int} {k : Nat} (h : k < xs.length) : xs[k]? = some (nth xs k) := by
  unfold nth
  rw [List.getD_eq_getElem?_getD, List.getElem?_eq_getElem h]; rfl
theorem nth_ge {xs : List Int} {k : Nat} (h : xs.length ≤ k) : nth xs k = 0 := by
  unfold nth
  rw [List.getD_eq_getElem?_getD, List.getElem?_eq_none h]; rfl
theorem nth_mem {xs : List Int} {k : Nat} (h : k < xs.length) : nth xs k ∈ xs := List.mem_of_getElem? (nth_lt h)
@[simp] theorem nth_nil {k : Nat} : nth [] k = 0 := nth_ge (by simp)
@[simp] theorem nth_zero {x : Int} {xs : List Int} : nth (x :: xs) 0 = x := rfl
@[simp] theorem nth_succ {x : Int} {xs : List Int} {k : Nat} : nth (x :: xs) (k + 1) = nth xs k := rfl
theorem nth_set {xs : List Int} {k t : Nat} {a : Int} (h : k < xs.length) : nth (xs.set k a) t = if t = k then a else nth xs t := by
  unfold nth
  simp only [List.getD_eq_getElem?_getD, List.getElem?_set]
  by_cases e : t = k
  · subst e; simp [h]
  · simp [e, Ne.symm e]
theorem nth_map {β : Type} {f : β → Int} {xs : List β} {k : Nat} {x : β} (h : xs[k]? = some x) : nth (xs.map f) k = f x := by
  unfold nth
  simp [h]
theorem nth_range {f : Nat → Int} {n k : Nat} (h : k < n) : nth ((List.range n).map f) k = f k := nth_map (by simp [h])
theorem nth_take {xs : List Int} {n k : Nat} (h : k < n) : nth (xs.take n) k = nth xs k := by
  unfold nth
  simp only [List.getD_eq_getElem?_getD]
  rw [List.getElem?_take_of_lt h]
theorem nth_app1 {xs ys : List Int} {k : Nat} (h : k < xs.length) : nth (xs ++ ys) k = nth xs k := by
  unfold nth
  simp only [List.getD_eq_getElem?_getD]
  rw [List.getElem?_append_left h]
theorem nth_app2 {xs ys : List Int} {k : Nat} (h : xs.length ≤ k) : nth (xs ++ ys) k = nth ys (k - xs.length) := by
  unfold nth
  simp only [List.getD_eq_getElem?_getD]
  rw [List.getElem?_append_right h]
theorem nth_rep {n k : Nat} : nth (List.replicate n 0) k = 0 := by
  unfold nth
  rw [List.getD_eq_getElem?_getD, List.getElem?_replicate]
  split <;> rfl
theorem take_nth {xs : List Int} {n : Nat} (h : n < xs.length) : xs.take (n + 1) = xs.take n ++ [nth xs n] := by rw [List.take_succ, nth_lt h]; rfl
theorem idx_il {xs : List Int} {k : Nat} (h : k < xs.length) : opIdx [⟨m, il xs⟩, ⟨p, .int (k : Int)⟩] = some ⟨.O, .int (nth xs k)⟩ := by
  rw [idx_dl (nth_lt h), nrm_int]
theorem idx_ilI {xs : List Int} {i : Int} (h0 : 0 ≤ i) (h : i < xs.length) : opIdx [⟨m, il xs⟩, ⟨p, .int i⟩] = some ⟨.O, .int (nth xs i.toNat)⟩ := by
  obtain ⟨k, rfl⟩ : ∃ k : Nat, i = k := ⟨i.toNat, by omega⟩
  exact idx_il (by omega)
theorem idxL {xs : List D} {i : Int} (h0 : 0 ≤ i) (h : i < xs.length) : ∃ d ∈ xs, opIdx [⟨m, .lst xs⟩, ⟨p, .int i⟩] = some (nrm (kidL m) d) := by
  obtain ⟨k, rfl⟩ : ∃ k : Nat, i = k := ⟨i.toNat, by omega⟩
  have hk : k < xs.length := by omega
  refine ⟨xs[k], List.getElem_mem hk, ?_⟩
  have := idx_dl (m := m) (p := p) (f := fun d : D => d) (xs := xs) (List.getElem?_eq_getElem hk)
  simpa [dl] using this
theorem idx_last {x : α} : opIdx [⟨m, dl f (xs ++ [x])⟩, ⟨p, .int (-1)⟩] = some (nrm (kidL m) (f x)) := by
  have h0 : (-1 + ((xs.length : Int) + 1)).toNat = xs.length := by omega
  have h1 : (-1 + ((xs.length : Int) + 1)) = xs.length := by omega
  have h2 : (1 : Int) ≤ (xs.length : Int) + 1 := by omega
  simp [opIdx, dl, atI, ixN, h0, h1, h2]
theorem mkL_flat (h : ∀ x ∈ xs, (f x).flat = true) : mkL (xs.map f) = ⟨.O, dl f xs⟩ := by
  have q : ∀ ys : List α, (∀ x ∈ ys, (f x).flat = true) → D.flats (ys.map f) = true := fun ys => by
    induction ys with
    | nil => intro _; rfl
    | cons y ys ih =>
      intro h
      simp [h y (by simp), ih fun x hx => h x (by simp [hx])]
  unfold mkL
  rw [if_pos (q xs h)]
  rfl
@[simp] theorem mkL_il {xs : List Int} : mkL (xs.map D.int) = ⟨.O, il xs⟩ := mkL_flat fun _ _ => rfl
@[simp] theorem opAdd_il {xs ys : List Int} : opAdd [⟨m, il xs⟩, ⟨p, il ys⟩] = if ok (xs.length + ys.length ≤ sizeLine) = true then some ⟨.O, il (xs ++ ys)⟩ else none := by
  have e : opAdd [⟨m, il xs⟩, ⟨p, il ys⟩] = if ok ((xs.map D.int).length + (ys.map D.int).length ≤ sizeLine) = true then some (mkL (xs.map D.int ++ ys.map D.int)) else none := rfl
  rw [e, ← List.map_append, mkL_il]
  simp
@[simp] theorem opMul_il {xs : List Int} {k : Int} : opMul [⟨m, il xs⟩, ⟨p, .int k⟩] = if ok (-(2 ^ 63) ≤ k ∧ k < 2 ^ 63 ∧ xs.length * k.toNat ≤ sizeLine) = true then some ⟨.O, il (List.replicate k.toNat xs).flatten⟩ else none := by
  have e : opMul [⟨m, il xs⟩, ⟨p, .int k⟩] = if ok (-(2 ^ 63) ≤ k ∧ k < 2 ^ 63 ∧ (xs.map D.int).length * k.toNat ≤ sizeLine) = true then some (mkL (List.replicate k.toNat (xs.map D.int)).flatten) else none := rfl
  have e2 : (List.replicate k.toNat (xs.map D.int)).flatten = ((List.replicate k.toNat xs).flatten).map D.int := by rw [List.map_flatten, List.map_replicate]
  rw [e, e2, mkL_il]
  simp
theorem opMul_rep {n k : Nat} (h : n ≤ k) (hk : k ≤ 1000000 := by decide) : opMul [⟨m, il [a]⟩, ⟨p, .int (n : Int)⟩] = some ⟨.O, il (List.replicate n a)⟩ := by
  have := sizeLine_big
  rw [opMul_il, if_pos (ok_of ⟨by omega, by omega, by simp; omega⟩)]
  simp
@[simp] theorem opList_il {xs : List Int} : opList [⟨m, il xs⟩] = some ⟨.O, il xs⟩ := by
  have e : opList [⟨m, il xs⟩] = some (mkL (xs.map D.int)) := rfl
  rw [e, mkL_il]
theorem cutOf_il {xs : List Int} {lo hi : Option Int} : cutOf (il xs) lo hi = some ⟨.O, il (cut xs lo hi)⟩ := by
  have e : cutOf (il xs) lo hi = some (mkL (cut (xs.map D.int) lo hi)) := rfl
  have e2 : cut (xs.map D.int) lo hi = (cut xs lo hi).map D.int := by unfold cut; simp
  rw [e, e2, mkL_il]
@[simp] theorem cutOf_ilTo {xs : List Int} {n : Nat} : cutOf (il xs) none (some (n : Int)) = some ⟨.O, il (xs.take n)⟩ := by rw [cutOf_il, cut_to]
@[simp] theorem pyOk_il {xs : List Int} : pyOk (il xs) = true := pyOk_ints
@[simp] theorem py_dl : (dl f xs).py = .list (D.pys (xs.map f)) := by simp [dl]
@[simp] theorem opEq_il {xs ys : List Int} : opEq [⟨m, il xs⟩, ⟨p, il ys⟩] = some ⟨.O, .bl (decide (xs = ys))⟩ := by simp [opEq, eqv_ints]
@[simp] theorem opNe_il {xs ys : List Int} : opNe [⟨m, il xs⟩, ⟨p, il ys⟩] = some ⟨.O, .bl (!decide (xs = ys))⟩ := by simp [opNe, eqv_ints]
theorem il_nil : D.lst [] = il [] := rfl
theorem il_one : D.lst [.int a] = il [a] := rfl
theorem il_two : D.lst [.int a, .int b] = il [a, b] := rfl
theorem il_three {c : Int} : D.lst [.int a, .int b, .int c] = il [a, b, c] := rfl
theorem il_four {c d : Int} : D.lst [.int a, .int b, .int c, .int d] = il [a, b, c, d] := rfl
theorem opEq_il0 {xs : List Int} : opEq [⟨m, il xs⟩, ⟨p, .lst []⟩] = some ⟨.O, .bl (decide (xs = []))⟩ := opEq_il (ys := [])
theorem opNe_il0 {xs : List Int} : opNe [⟨m, il xs⟩, ⟨p, .lst []⟩] = some ⟨.O, .bl (!decide (xs = []))⟩ := opNe_il (ys := [])
/-! comprehensions -/
theorem relock_lock1 (a b : Option Slot) (h : relock a b = a) : relock a (lock1 b) = a := by
  cases b with
  | none => exact h
  | some b =>
    cases a with
    | none => simp [relock] at h
    | some a =>
      simp only [relock, Option.some.injEq] at h
      simp only [lock1, relock, Option.some.injEq]
      rw [← h]
      split <;> rfl
theorem restore_unhide {ls vs : List Nat} {ρ' : Env} (h : restore ρ ρ1 = ρ) : restore ρ (unhide ls [] vs ρ1 ρ') = ρ := by
  have hl : ρ.length = ρ1.length := by
    have := congrArg List.length h
    rw [restore_len] at this
    exact this.symm
  have hl2 : ρ.length = (unhide ls [] vs ρ1 ρ').length := by unfold unhide; rw [List.length_mapIdx]; exact hl
  apply List.ext_getElem?
  intro i
  have e : (restore ρ ρ1)[i]? = ρ[i]? := by rw [h]
  rw [restore_get _ _ hl] at e
  rw [restore_get _ _ hl2, unhide_get]
  cases ea : ρ[i]? with
  | none =>
    rw [ea] at e
    have e1 : ρ1[i]? = none := List.getElem?_eq_none (by have := List.getElem?_eq_none_iff.mp ea; omega)
    rw [e1]
    rfl
  | some a =>
    rw [ea] at e
    cases eb : ρ1[i]? with
    | none => rw [eb] at e; cases e
    | some b =>
      rw [eb] at e
      simp only [Option.some.injEq, Option.map_some] at e ⊢
      split
      · exact e
      · simp only [List.contains_nil, Bool.false_eq_true, if_false]
        split
        · exact relock_lock1 _ _ e
        · exact e
theorem lcGo_gen {g : STg} {t : SB} {f : SE} {vs : List Nat} {ρh : Env} (E : D → Env) (P : D → Bool) (F : D → D) : ∀ (ds : List D) (acc : List Val), acc.length + ds.length ≤ sizeLine →
    (∀ d ∈ ds, g (nrm .F d) ρh = some (E d)) → (∀ d ∈ ds, wipeE vs (E d) = ρh) → (∀ d ∈ ds, t (E d) = some (P d, E d)) → (∀ d ∈ ds, P d = true → f (E d) = some (⟨.O, F d⟩, E d)) →
    lcGo g t f vs ds ρh acc = some (acc ++ (ds.filter P).map (fun d => ⟨.O, F d⟩), ρh)
  | [], acc, _, _, _, _, _ => by simp [lcGo]
  | d :: ds, acc, hl, hg, hw, ht, hf => by
    have hl2 : ok (acc.length < sizeLine) = true := ok_of (by simp at hl; omega)
    rw [lcGo, hg d (by simp)]
    simp only
    rw [ht d (by simp)]
    by_cases hp : P d = true
    · have ih := lcGo_gen E P F ds (acc ++ [⟨.O, F d⟩]) (by simp at hl ⊢; omega) (fun x hx => hg x (by simp [hx])) (fun x hx => hw x (by simp [hx])) (fun x hx => ht x (by simp [hx])) (fun x hx => hf x (by simp [hx]))
      simp [hp, hf d (by simp) hp, hl2, hw d (by simp), ih]
    · have ih := lcGo_gen E P F ds acc (by simp at hl ⊢; omega) (fun x hx => hg x (by simp [hx])) (fun x hx => hw x (by simp [hx])) (fun x hx => ht x (by simp [hx])) (fun x hx => hf x (by simp [hx]))
      simp [hp, hw d (by simp), ih]
theorem allO_mapO {F : D → D} : ∀ ds : List D, allO (ds.map fun d => (⟨.O, F d⟩ : Val)) = true
  | [] => rfl
  | d :: ds => by simp [allO_mapO (F := F) ds]
/-- a comprehension of closed things -/
theorem sLc_gen {ls vs : List Nat} {src : SI} {g : STg} {t : SB} {f : SE} {ds : List D} (E : D → Env) (P : D → Bool) (F : D → D) (h1 : src ρ = some (ds, ρ1)) (hr : restore ρ ρ1 = ρ) (hl : ds.length ≤ sizeLine)
    (hg : ∀ d ∈ ds, g (nrm .F d) (hide ls [] vs ρ1) = some (E d)) (hw : ∀ d ∈ ds, wipeE vs (E d) = hide ls [] vs ρ1) (ht : ∀ d ∈ ds, t (E d) = some (P d, E d)) (hf : ∀ d ∈ ds, P d = true → f (E d) = some (⟨.O, F d⟩, E d)) :
    sLc ls [] vs src g t f ρ = some (⟨.O, .lst ((ds.filter P).map F)⟩, ρ) := by
  have q := lcGo_gen (g := g) (t := t) (f := f) (vs := vs) E P F ds [] (by simpa using hl) hg hw ht hf
  have e : ∀ l : List D, (List.map (fun d => (⟨.O, F d⟩ : Val)) l).map (fun (x : Val) => x.d) = l.map F := fun l => by simp
  simp [sLc, sealE, h1, q, esOk, allO_mapO, restore_unhide hr]
/-- the same, without a test -/
theorem sLc_all {ls vs : List Nat} {src : SI} {g : STg} {f : SE} {ds : List D} (E : D → Env) (F : D → D) (h1 : src ρ = some (ds, ρ1)) (hr : restore ρ ρ1 = ρ) (hl : ds.length ≤ sizeLine)
    (hg : ∀ d ∈ ds, g (nrm .F d) (hide ls [] vs ρ1) = some (E d)) (hw : ∀ d ∈ ds, wipeE vs (E d) = hide ls [] vs ρ1) (hf : ∀ d ∈ ds, f (E d) = some (⟨.O, F d⟩, E d)) :
    sLc ls [] vs src g sYes f ρ = some (⟨.O, .lst (ds.map F)⟩, ρ) := by
  have q := sLc_gen (t := sYes) E (fun _ => true) F h1 hr hl hg hw (fun d _ => rfl) (fun d hd _ => hf d hd)
  have e : ds.filter (fun _ => true) = ds := List.filter_eq_self.mpr fun _ _ => rfl
  rw [q, e]
/-- over like things -/
theorem sLc_dlL {β : Type} {ls vs : List Nat} {src : SI} {g : STg} {e : SE} {xs : List α} {f : α → D} {h : β → D} (E : α → Env) (F : α → β) (h1 : src ρ = some (xs.map f, ρ1)) (hr : restore ρ ρ1 = ρ) (hl : xs.length ≤ sizeLine)
    (hg : ∀ x ∈ xs, g (nrm .F (f x)) (hide ls [] vs ρ1) = some (E x)) (hw : ∀ x ∈ xs, wipeE vs (E x) = hide ls [] vs ρ1) (hf : ∀ x ∈ xs, e (E x) = some (⟨.O, h (F x)⟩, E x)) :
    sLc ls [] vs src g sYes e ρ = some (⟨.O, dl h (xs.map F)⟩, ρ) := by
  have q : ∀ (l : List α) (acc : List Val), acc.length + l.length ≤ sizeLine → (∀ x ∈ l, x ∈ xs) → lcGo g sYes e vs (l.map f) (hide ls [] vs ρ1) acc = some (acc ++ l.map (fun x => ⟨.O, h (F x)⟩), hide ls [] vs ρ1) := by
    intro l
    induction l with
    | nil => intro acc _ _; simp [lcGo]
    | cons x l ih =>
      intro acc hl hm
      have hx := hm x (by simp)
      have hl2 : ok (acc.length < sizeLine) = true := ok_of (by simp at hl; omega)
      rw [List.map_cons, lcGo, hg x hx]
      simp [hf x hx, hl2, hw x hx, ih (acc ++ [⟨.O, h (F x)⟩]) (by simp at hl ⊢; omega) (fun y hy => hm y (by simp [hy]))]
  have al : ∀ l : List α, allO (l.map fun x => (⟨.O, h (F x)⟩ : Val)) = true := fun l => by
    induction l with
    | nil => rfl
    | cons x l ih => simp [ih]
  have e2 : ∀ l : List α, (List.map (fun x => (⟨.O, h (F x)⟩ : Val)) l).map (fun (x : Val) => x.d) = (l.map F).map h := fun l => by simp
  have q1 := q xs [] (by simpa using hl) fun x hx => hx
  simp [sLc, sealE, h1, q1, esOk, al, restore_unhide hr, dl]
theorem sLc_dl {β : Type} {ls vs : List Nat} {src : SI} {g : STg} {e : SE} {xs : List α} {f : α → D} {h : β → D} (E : α → Env) (F : α → β) (h1 : src ρ = some (xs.map f, ρ)) (hl : xs.length ≤ sizeLine)
    (hg : ∀ x ∈ xs, g (nrm .F (f x)) (hide ls [] vs ρ) = some (E x)) (hw : ∀ x ∈ xs, wipeE vs (E x) = hide ls [] vs ρ) (hf : ∀ x ∈ xs, e (E x) = some (⟨.O, h (F x)⟩, E x)) :
    sLc ls [] vs src g sYes e ρ = some (⟨.O, dl h (xs.map F)⟩, ρ) := sLc_dlL E F h1 (restore_self _) hl hg hw hf
theorem small_of {i : Int} (h : -1000000 ≤ i ∧ i ≤ 1000000) : small i = true := ok_of (by omega)
theorem small_nat {n k : Nat} (h : n ≤ k) (hk : k ≤ 1000000 := by decide) : small (n : Int) = true := small_of (by omega)
theorem sizeN {n k : Nat} (h : n ≤ k) (hk : k ≤ 1000000 := by decide) : n ≤ sizeLine := by have := sizeLine_big; omega
/-! fors -/
/-- one time round: the item is bound, the body is run -/
def once (g : STg) (b : SS) (d : D) (ρ : Env) : Option Out :=
  match g (nrm .F d) ρ with
  | some ρ1 => b ρ1
  | none => none
@[simp] theorem once_ap {g : STg} {b : SS} {d : D} : once g b d ρ = (match g (nrm .F d) ρ with
  | some ρ1 => b ρ1
  | none => none) := rfl
theorem sFor_list {α : Type} {src : SI} {g : STg} {b : SS} {f : α → D} {xs : List α} (P : Nat → Env → Prop) (h : src ρ = some (xs.map f, ρ1)) (h0 : P 0 (freeze2 ρ ρ1))
    (hs : ∀ k x ρ, xs[k]? = some x → P k ρ → nxIs (once g b (f x) ρ) (P (k + 1))) : ∃ ρ', sFor src g b ρ = some (.nx ρ') ∧ P xs.length ρ' := by
  obtain ⟨ρ', e, q⟩ := for_inv (t := g) (b := b) P (xs.map f) 0 (freeze2 ρ ρ1) h0 (by
    intro k d ρ hd hp
    rw [List.getElem?_map] at hd
    cases hx : xs[k]? with
    | none => rw [hx] at hd; cases hd
    | some x =>
      rw [hx] at hd
      cases hd
      have q := hs k x ρ hx (by simpa using hp)
      unfold once at q
      cases e1 : g (nrm .F (f x)) ρ with
      | none => rw [e1] at q; cases q
      | some ρ1 =>
        rw [e1] at q
        obtain ⟨ρ2, e2, p2⟩ := nxIs_ex q
        exact ⟨ρ1, ρ2, rfl, e2, by simpa using p2⟩)
  refine ⟨ρ', ?_, by simpa using q⟩
  rw [sFor_ap, h]
  exact e
theorem sFor_up {src : SI} {g : STg} {b : SS} {n : Nat} {lo : Int} (P : Nat → Env → Prop) (h : src ρ = some (up lo n, ρ1)) (h0 : P 0 (freeze2 ρ ρ1))
    (hs : ∀ k ρ, k < n → P k ρ → nxIs (once g b (.int (lo + k)) ρ) (P (k + 1))) : ∃ ρ', sFor src g b ρ = some (.nx ρ') ∧ P n ρ' := by
  obtain ⟨ρ', e, q⟩ := sFor_list (ρ := ρ) (src := src) (g := g) (b := b) (f := fun k : Nat => D.int (lo + (k : Int))) (xs := List.range n) P h h0 (by
    intro k x ρ hx hp
    have hk : k < n := by have := lt_of_get hx; simpa using this
    rw [List.getElem?_range hk] at hx
    cases hx
    exact hs k ρ hk hp)
  exact ⟨ρ', e, by simpa using q⟩
theorem sFor_up0 {src : SI} {g : STg} {b : SS} {n : Nat} (P : Nat → Env → Prop) (h : src ρ = some (up 0 n, ρ1)) (h0 : P 0 (freeze2 ρ ρ1))
    (hs : ∀ k ρ, k < n → P k ρ → nxIs (once g b (.int (k : Int)) ρ) (P (k + 1))) : ∃ ρ', sFor src g b ρ = some (.nx ρ') ∧ P n ρ' :=
  sFor_up P h h0 fun k ρ hk hp => by rw [Int.zero_add]; exact hs k ρ hk hp
theorem up_dl {n : Nat} : up 0 n = (List.range n).map fun (k : Nat) => D.int (k : Int) := by unfold up; simp
end
end Tr

/-! TrOps2: append and item stores, as simp lemmas. -/
namespace Tr
open PySem L2
section
variable {m p q : Mode} {a b : Int} {ρ ρ1 ρ2 : Env} {α : Type} {f : SE} {g : SE} {i : Nat} {h : α → D} {xs : List α} {lk : Bool}
@[simp] theorem opAddI_ii : opAddI [⟨m, .int a⟩, ⟨p, .int b⟩] = some ⟨.O, .int (a + b)⟩ := rfl
@[simp] theorem isLst_lst {x : List D} : isLst (some (some ⟨m, lk, .lst x⟩)) = true := rfl
@[simp] theorem isLst_dl : isLst (some (some ⟨m, lk, dl h xs⟩)) = true := rfl
@[simp] theorem all_const {β : Type} (xs : List β) : (xs.all fun _ => true) = true := by rw [List.all_eq_true]; simp
@[simp] theorem isi_list : opIsi [⟨m, dl h xs⟩, ⟨p, .ty "list"⟩] = some ⟨.O, .bl true⟩ := rfl
@[simp] theorem isi_ii : opIsi [⟨m, .int a⟩, ⟨p, .ty "int"⟩] = some ⟨.O, .bl true⟩ := rfl
@[simp] theorem isi_ib : opIsi [⟨m, .int a⟩, ⟨p, .ty "bool"⟩] = some ⟨.O, .bl false⟩ := rfl
@[simp] theorem isi_tup {x : List D} : opIsi [⟨m, .tup x⟩, ⟨p, .ty "tuple"⟩] = some ⟨.O, .bl true⟩ := rfl
@[simp] theorem isi_bl_int {x : Bool} : opIsi [⟨m, .bl x⟩, ⟨p, .ty "int"⟩] = some ⟨.O, .bl true⟩ := rfl
@[simp] theorem isi_bl_bool {x : Bool} : opIsi [⟨m, .bl x⟩, ⟨p, .ty "bool"⟩] = some ⟨.O, .bl true⟩ := rfl
@[simp] theorem isi_bl_list {x : Bool} : opIsi [⟨m, .bl x⟩, ⟨p, .ty "list"⟩] = some ⟨.O, .bl false⟩ := rfl
@[simp] theorem isi_bl_tuple {x : Bool} : opIsi [⟨m, .bl x⟩, ⟨p, .ty "tuple"⟩] = some ⟨.O, .bl false⟩ := rfl
@[simp] theorem isi_bl_str {x : Bool} : opIsi [⟨m, .bl x⟩, ⟨p, .ty "str"⟩] = some ⟨.O, .bl false⟩ := rfl
@[simp] theorem isi_int_list {x : Int} : opIsi [⟨m, .int x⟩, ⟨p, .ty "list"⟩] = some ⟨.O, .bl false⟩ := rfl
@[simp] theorem isi_int_tuple {x : Int} : opIsi [⟨m, .int x⟩, ⟨p, .ty "tuple"⟩] = some ⟨.O, .bl false⟩ := rfl
@[simp] theorem isi_int_str {x : Int} : opIsi [⟨m, .int x⟩, ⟨p, .ty "str"⟩] = some ⟨.O, .bl false⟩ := rfl
@[simp] theorem isi_non_int  : opIsi [⟨m, .non⟩, ⟨p, .ty "int"⟩] = some ⟨.O, .bl false⟩ := rfl
@[simp] theorem isi_non_bool  : opIsi [⟨m, .non⟩, ⟨p, .ty "bool"⟩] = some ⟨.O, .bl false⟩ := rfl
@[simp] theorem isi_non_list  : opIsi [⟨m, .non⟩, ⟨p, .ty "list"⟩] = some ⟨.O, .bl false⟩ := rfl
@[simp] theorem isi_non_tuple  : opIsi [⟨m, .non⟩, ⟨p, .ty "tuple"⟩] = some ⟨.O, .bl false⟩ := rfl
@[simp] theorem isi_non_str  : opIsi [⟨m, .non⟩, ⟨p, .ty "str"⟩] = some ⟨.O, .bl false⟩ := rfl
@[simp] theorem isi_str_int {x : Str} : opIsi [⟨m, .str x⟩, ⟨p, .ty "int"⟩] = some ⟨.O, .bl false⟩ := rfl
@[simp] theorem isi_str_bool {x : Str} : opIsi [⟨m, .str x⟩, ⟨p, .ty "bool"⟩] = some ⟨.O, .bl false⟩ := rfl
@[simp] theorem isi_str_list {x : Str} : opIsi [⟨m, .str x⟩, ⟨p, .ty "list"⟩] = some ⟨.O, .bl false⟩ := rfl
@[simp] theorem isi_str_tuple {x : Str} : opIsi [⟨m, .str x⟩, ⟨p, .ty "tuple"⟩] = some ⟨.O, .bl false⟩ := rfl
@[simp] theorem isi_str_str {x : Str} : opIsi [⟨m, .str x⟩, ⟨p, .ty "str"⟩] = some ⟨.O, .bl true⟩ := rfl
@[simp] theorem isi_lst_int {x : List D} : opIsi [⟨m, .lst x⟩, ⟨p, .ty "int"⟩] = some ⟨.O, .bl false⟩ := rfl
@[simp] theorem isi_lst_bool {x : List D} : opIsi [⟨m, .lst x⟩, ⟨p, .ty "bool"⟩] = some ⟨.O, .bl false⟩ := rfl
@[simp] theorem isi_lst_list {x : List D} : opIsi [⟨m, .lst x⟩, ⟨p, .ty "list"⟩] = some ⟨.O, .bl true⟩ := rfl
@[simp] theorem isi_lst_tuple {x : List D} : opIsi [⟨m, .lst x⟩, ⟨p, .ty "tuple"⟩] = some ⟨.O, .bl false⟩ := rfl
@[simp] theorem isi_lst_str {x : List D} : opIsi [⟨m, .lst x⟩, ⟨p, .ty "str"⟩] = some ⟨.O, .bl false⟩ := rfl
@[simp] theorem isi_tup_int {x : List D} : opIsi [⟨m, .tup x⟩, ⟨p, .ty "int"⟩] = some ⟨.O, .bl false⟩ := rfl
@[simp] theorem isi_tup_bool {x : List D} : opIsi [⟨m, .tup x⟩, ⟨p, .ty "bool"⟩] = some ⟨.O, .bl false⟩ := rfl
@[simp] theorem isi_tup_list {x : List D} : opIsi [⟨m, .tup x⟩, ⟨p, .ty "list"⟩] = some ⟨.O, .bl false⟩ := rfl
@[simp] theorem isi_tup_str {x : List D} : opIsi [⟨m, .tup x⟩, ⟨p, .ty "str"⟩] = some ⟨.O, .bl false⟩ := rfl
@[simp] theorem isi_scr_int {x : List Int} : opIsi [⟨m, .scr x⟩, ⟨p, .ty "int"⟩] = some ⟨.O, .bl false⟩ := rfl
@[simp] theorem isi_scr_bool {x : List Int} : opIsi [⟨m, .scr x⟩, ⟨p, .ty "bool"⟩] = some ⟨.O, .bl false⟩ := rfl
@[simp] theorem isi_scr_list {x : List Int} : opIsi [⟨m, .scr x⟩, ⟨p, .ty "list"⟩] = some ⟨.O, .bl true⟩ := rfl
@[simp] theorem isi_scr_tuple {x : List Int} : opIsi [⟨m, .scr x⟩, ⟨p, .ty "tuple"⟩] = some ⟨.O, .bl false⟩ := rfl
@[simp] theorem isi_scr_str {x : List Int} : opIsi [⟨m, .scr x⟩, ⟨p, .ty "str"⟩] = some ⟨.O, .bl false⟩ := rfl
@[simp] theorem isi_dl_int : opIsi [⟨m, dl h xs⟩, ⟨p, .ty "int"⟩] = some ⟨.O, .bl false⟩ := rfl
@[simp] theorem isi_dl_bool : opIsi [⟨m, dl h xs⟩, ⟨p, .ty "bool"⟩] = some ⟨.O, .bl false⟩ := rfl
@[simp] theorem isi_dl_tuple : opIsi [⟨m, dl h xs⟩, ⟨p, .ty "tuple"⟩] = some ⟨.O, .bl false⟩ := rfl
@[simp] theorem isi_dl_str : opIsi [⟨m, dl h xs⟩, ⟨p, .ty "str"⟩] = some ⟨.O, .bl false⟩ := rfl
theorem sVar_par {d : D} (h : ρ[i]? = some (some (par d))) : sVar i ρ = some (⟨(par d).m, d⟩, ρ) := by
  unfold sVar
  rw [h]
  have e : (par d).d = d := rfl
  simp only [e]
  by_cases hf : d.flat = true
  · have : (par d).m = .O := by simp [par, nrm, hf]
    rw [if_pos hf, this]
  · have : (par d).m = .F := by simp [par, nrm, hf]
    rw [if_neg hf, this]
    rfl
@[simp] theorem par_d {d : D} : (par d).d = d := rfl
@[simp] theorem opTuple_il {xs : List Int} : opTuple [⟨m, il xs⟩] = some ⟨.O, .tup (xs.map D.int)⟩ := by
  have e : opTuple [⟨m, il xs⟩] = if D.flats (xs.map D.int) then some ⟨.O, .tup (xs.map D.int)⟩ else none := rfl
  rw [e, flats_ints, if_pos rfl]
theorem opAdd_lst {x y : List D} : opAdd [⟨m, .lst x⟩, ⟨p, .lst y⟩] = if ok (x.length + y.length ≤ sizeLine) = true then some (mkL (x ++ y)) else none := rfl
@[simp] theorem opAll_dl {bs : List Bool} : opAll [⟨m, dl D.bl bs⟩] = some ⟨.O, .bl (bs.all id)⟩ := by
  have e : ∀ bs : List Bool, bls? (bs.map D.bl) = some bs := fun bs => by
    induction bs with
    | nil => rfl
    | cons b bs ih => simp [bls?, ih]
  simp [opAll, dl, e]
@[simp] theorem idx_tup0 {x : D} {r : List D} : opIdx [⟨m, .tup (x :: r)⟩, ⟨p, .int 0⟩] = some (nrm m x) := by simp [opIdx, atI, ixN]
@[simp] theorem idx_tup1 {x y : D} {r : List D} : opIdx [⟨m, .tup (x :: y :: r)⟩, ⟨p, .int 1⟩] = some (nrm m y) := by
  have h : (1 : Int) < (r.length : Int) + 1 + 1 := by omega
  simp [opIdx, atI, ixN, h]
@[simp] theorem idx_tup2 {x y z : D} {r : List D} : opIdx [⟨m, .tup (x :: y :: z :: r)⟩, ⟨p, .int 2⟩] = some (nrm m z) := by
  have h : (2 : Int) < (r.length : Int) + 1 + 1 + 1 := by omega
  simp [opIdx, atI, ixN, h]
theorem idx_ilLast {xs : List Int} (h : xs ≠ []) : opIdx [⟨m, il xs⟩, ⟨p, .int (-1)⟩] = some ⟨.O, .int (nth xs (xs.length - 1))⟩ := by
  rcases List.eq_nil_or_concat xs with e | ⟨ys, a, e⟩
  · exact absurd e h
  · have e : xs = ys ++ [a] := by simpa using e
    subst e
    rw [idx_last, nrm_int]
    congr 3
    rw [nth_app2 (by simp)]
    simp
@[simp] theorem opEq_pair {a b c d : List Int} : opEq [⟨m, .tup [il a, il b]⟩, ⟨p, .tup [il c, il d]⟩] = some ⟨.O, .bl (decide (a = c ∧ b = d))⟩ := by
  rw [opEq_ap, if_pos (by simp [pyOk_tup, dl, goods_ints])]
  simp [eqv_ints]
@[simp] theorem opNe_pair {a b c d : List Int} : opNe [⟨m, .tup [il a, il b]⟩, ⟨p, .tup [il c, il d]⟩] = some ⟨.O, .bl (!decide (a = c ∧ b = d))⟩ := by
  rw [opNe_ap, if_pos (by simp [pyOk_tup, dl, goods_ints])]
  simp [eqv_ints]
noncomputable def apnd (s : Slot) (r : Val) : Option Slot :=
  match s with
  | ⟨m, _, .lst xs⟩ =>
    if ok (xs.length < sizeLine) = true then
      match m with
      | .O =>
        if r.m = .O then some ⟨.O, false, .lst (xs ++ [r.d])⟩
        else if r.m = .F ∧ D.flats xs = true then some ⟨.S, false, .lst (xs ++ [r.d])⟩
        else none
      | .S => if r.m = .F ∨ r.d.flat = true then some ⟨.S, false, .lst (xs ++ [r.d])⟩ else none
      | .F => none
    else none
  | _ => none
@[simp] theorem sApnd_ap : sApnd i f ρ = if isLst ρ[i]? = true then (match f ρ with
    | some (r, ρ1) => (match (settle ρ r ρ1)[i]? with
      | some (some s) => (match apnd s r with
        | some s' => some (.nx ((settle ρ r ρ1).set i (some s')))
        | none => none)
      | _ => none)
    | none => none) else none := by
  unfold sApnd
  split
  · cases f ρ with
    | none => rfl
    | some x =>
      obtain ⟨r, ρ1⟩ := x
      simp only
      cases (settle ρ r ρ1)[i]? with
      | none => rfl
      | some s =>
        cases s with
        | none => rfl
        | some s =>
          obtain ⟨m, lk, d⟩ := s
          cases d with
          | lst xs =>
            simp only [apnd]
            split
            · cases m <;> simp only
              · split <;> rfl
              · split
                · rfl
                · split <;> rfl
            · rfl
          | _ => rfl
  · rfl
theorem apnd_O {x : α} (hl : ok (xs.length < sizeLine) = true) : apnd ⟨.O, lk, dl h xs⟩ ⟨.O, h x⟩ = some ⟨.O, false, dl h (xs ++ [x])⟩ := by
  simp [apnd, dl, hl]
@[simp] theorem apnd_il {xs : List Int} : apnd ⟨.O, lk, il xs⟩ ⟨.O, .int a⟩ = if ok (xs.length < sizeLine) = true then some ⟨.O, false, il (xs ++ [a])⟩ else none := by
  simp [apnd, dl]
def putS (r : Val) (s : Slot) (k : Int) : Option Slot :=
  match s with
  | ⟨m, _, .lst xs⟩ =>
    match ixN xs.length k with
    | some j =>
      match m with
      | .O =>
        if r.m = .O then some ⟨.O, false, .lst (xs.set j r.d)⟩
        else if r.m = .F ∧ D.flats xs = true then some ⟨.S, false, .lst (xs.set j r.d)⟩
        else none
      | .S => if r.m = .F ∨ r.d.flat = true then some ⟨.S, false, .lst (xs.set j r.d)⟩ else none
      | .F => none
    | none => none
  | _ => none
@[simp] theorem putAt_ap {r : Val} {k : Int} : putAt r ρ i k = (match ρ[i]? with
    | some (some s) => (match putS r s k with
      | some s' => some (ρ.set i (some s'))
      | none => none)
    | _ => none) := by
  unfold putAt
  cases ρ[i]? with
  | none => rfl
  | some s =>
    cases s with
    | none => rfl
    | some s =>
      obtain ⟨m, lk, d⟩ := s
      cases d with
      | lst xs =>
        simp only [putS]
        cases ixN xs.length k with
        | none => rfl
        | some j =>
          cases m <;> simp only
          · split <;> rfl
          · split
            · rfl
            · split <;> rfl
      | _ => rfl
theorem ixN_nat {n k : Nat} (hk : k < n) : ixN n (k : Int) = some k := by
  unfold ixN
  rw [if_pos (by omega), if_pos (by omega)]
  simp
theorem putS_il {xs : List Int} {k : Nat} (hk : k < xs.length) : putS ⟨.O, .int a⟩ ⟨.O, lk, il xs⟩ (k : Int) = some ⟨.O, false, il (xs.set k a)⟩ := by
  have := ixN_nat hk
  simp [putS, dl, this, List.map_set]
theorem putS_O {x : α} {k : Nat} (hk : k < xs.length) : putS ⟨.O, h x⟩ ⟨.O, lk, dl h xs⟩ (k : Int) = some ⟨.O, false, dl h (xs.set k x)⟩ := by
  have := ixN_nat hk
  simp [putS, dl, this, List.map_set]
@[simp] theorem sGSub_ap {r : Val} : sGSub i g r ρ = if isLst ρ[i]? = true then (match g ρ with
    | some (⟨_, .int k⟩, ρ1) => putAt r (restore ρ ρ1) i k
    | _ => none) else none := rfl
def intAt (s : Slot) (k : Int) : Option Int :=
  match s with
  | ⟨_, _, .lst xs⟩ => (match atI xs k with
    | some (.int a) => some a
    | _ => none)
  | _ => none
@[simp] theorem sAugS_ap {op : Int → Int → Int} : sAugS i op g f ρ = if isLst ρ[i]? = true then (match g ρ with
    | some (⟨_, .int k⟩, ρ1) => (match (restore ρ ρ1)[i]? with
      | some (some s) => (match intAt s k with
        | some old => (match f (restore ρ ρ1) with
          | some (⟨_, .int y⟩, ρ2) => (match putAt ⟨.O, .int (op old y)⟩ (restore (restore ρ ρ1) ρ2) i k with
            | some ρ3 => some (.nx ρ3)
            | none => none)
          | _ => none)
        | none => none)
      | _ => none)
    | _ => none) else none := by
  unfold sAugS
  split
  · cases g ρ with
    | none => rfl
    | some x =>
      obtain ⟨⟨mk, dk⟩, ρ1⟩ := x
      cases dk with
      | int k =>
        simp only
        cases (restore ρ ρ1)[i]? with
        | none => rfl
        | some s =>
          cases s with
          | none => rfl
          | some s =>
            obtain ⟨m, lk, d⟩ := s
            cases d with
            | lst xs =>
              simp only [intAt]
              cases atI xs k with
              | none => rfl
              | some o => cases o <;> rfl
            | _ => rfl
      | _ => rfl
  · rfl
theorem intAt_il {xs : List Int} {k : Nat} (hk : k < xs.length) : intAt ⟨m, lk, il xs⟩ (k : Int) = some (nth xs k) := by
  simp [intAt, dl, atI, ixN_nat hk, nth_lt hk]
end
end Tr

/-! TrSwap: xs[g1], xs[g2] = xs[f1], xs[f2]: two items are exchanged. -/
namespace Tr
open PySem L2
/-- all that slots hold is looked at alone -/
def fz1 : Option Slot → Option Slot
  | some s => some ⟨.F, false, s.d⟩
  | none => none
def fz (ρ : Env) : Env := ρ.map fz1
def swp {α : Type} (xs : List α) (i j : Nat) (x y : α) : List α := (xs.set j x).set i y
noncomputable def sSwap (i : Nat) (f1 f2 g1 g2 : SE) : SS := fun ρ =>
  match ρ[i]? with
  | some (some ⟨.O, false, .lst xs⟩) =>
    match f1 (fz ρ), f2 (fz ρ), g1 (fz ρ) with
    | some (⟨_, .int a⟩, _), some (⟨_, .int b⟩, _), some (⟨_, .int b'⟩, _) =>
      match ixN xs.length a, ixN xs.length b with
      | some ja, some jb =>
        match xs[ja]?, xs[jb]? with
        | some da, some db =>
          if ixN xs.length b' = some jb then
            match g2 (fz (ρ.set i (some ⟨.O, false, .lst (xs.set jb da)⟩))) with
            | some (⟨_, .int a'⟩, _) => if ixN xs.length a' = some ja then some (.nx (ρ.set i (some ⟨.O, false, .lst (swp xs ja jb da db)⟩))) else none
            | _ => none
          else none
        | _, _ => none
      | _, _ => none
    | _, _, _ => none
  | _ => none
section
variable {W : Wd} {ρ ρ' ρ1 ρ2 : Env} {σ σ' σ1 σ2 : L2.St} {H F G H' F' G' H1 F1 G1 H2 F2 : Hp} {As As' As1 As2 : Nat → List Addr} {B : List Addr}
theorem fz_get {j : Nat} {s : Slot} (h : (fz ρ)[j]? = some (some s)) : ∃ s0, ρ[j]? = some (some s0) ∧ s = ⟨.F, false, s0.d⟩ := by
  unfold fz at h
  rw [List.getElem?_map] at h
  cases e : ρ[j]? with
  | none => rw [e] at h; cases h
  | some x =>
    rw [e] at h
    cases x with
    | none => cases h
    | some s0 => cases h; exact ⟨s0, rfl, rfl⟩
/-- every slot is looked at, the heap stands still -/
theorem sta_fz (hl : ρ.length = σ.length) (h : ∀ (j : Nat) (s : Slot), ρ[j]? = some (some s) → ∃ v, σ[j]? = some (some v) ∧ Rep W H H .F s.d v []) : Sta W (fz ρ) σ H H H (fun _ => []) where
  len := by unfold fz; simpa using hl
  slot := fun j s e => by
    obtain ⟨s0, e0, rfl⟩ := fz_get e
    exact h j s0 e0
  lock := fun _ _ _ _ a ha => nomatch ha
  free := fun _ _ _ _ a ha => nomatch ha
  none := fun _ _ => rfl
  nd := fun _ => List.nodup_nil
  dj := fun _ _ a ha => nomatch ha
  fo := fun _ a ha => nomatch ha
  fg := Same.refl _
  gh := Same.refl _
theorem same_tup (h : Same H H1) : ∀ a vs, SqT W.K H a vs → SqT W.K H1 a vs := by
  intro a vs q
  rcases q with (q | ⟨o, q⟩) | q
  · exact .inl (.inl (h _ _ q))
  · exact .inl (.inr ⟨o, h _ _ q⟩)
  · exact .inr q
theorem sta_all (S : Sta W ρ σ H F G As) (X : Same H H1) : Sta W (fz ρ) σ H1 H1 H1 (fun _ => []) :=
  sta_fz S.len fun j s e => by
    obtain ⟨v, hv, r⟩ := S.slot j s e
    have r2 := r.froze (G' := H1) ((S.fg.trans S.gh).trans X) fun a ha => by
      obtain ⟨o, ho, _⟩ := r.own a ha
      rw [ho]; exact X _ _ ho
    exact ⟨v, hv, r2.mono (same_tup X) (Same.refl _) fun _ z => nomatch z⟩
theorem pure_keep (S : Sta W (fz ρ) σ H H H (fun _ => [])) (p : Post W (fz ρ) σ H H H (fun _ => []) ρ1 H1 G1 As1) : Same H H1 := fun a o e => p.keep a o e fun ⟨_, _, _, _, z⟩ => nomatch z
/-- an int, reckoned where all is looked at alone -/
theorem pure_int {te : TE} {f : SE} {m : Mode} {a : Int} {Q : VK} (hf : SimE W te f) (S : Sta W (fz ρ) σ H H H (fun _ => [])) (e : f (fz ρ) = some (⟨m, .int a⟩, ρ1)) (k : ∀ H1, Same H H1 → Q (.int a) H1) : te σ H Q := by
  refine hf _ σ H H H _ _ _ _ S e fun x H1 G1 As1 B p rx _ _ => ?_
  have ex : x = .int a := by cases rx; rfl
  subst ex
  exact k H1 (pure_keep S p)
/-- a heap that has grown -/
theorem ext_step (S : Sta W ρ σ H F F As) (n : NoLk ρ) (X : Same H H1) : Step W [] ρ σ H F As ρ σ H1 F As where
  st := ⟨S.len, fun j s e => by
    obtain ⟨v, hv, r⟩ := S.slot j s e
    exact ⟨v, hv, r.mono (same_tup X) (Same.refl _) fun a _ o e => X a o e⟩, fun j s e l => (by rw [n j s e] at l; cases l), S.free, S.none, S.nd, S.dj, S.fo, S.fg, S.gh.trans X⟩
  nl := n
  keep := fun a o e _ _ => X a o e
  dom := fun a e => by
    cases h : H a with
    | none => rfl
    | some o => rw [X a o h] at e; cases e
  ff := Same.refl _
  fn := fun _ e q => absurd e q
  an := fun i _ h => .inr (.inl ⟨i, h⟩)
  tp := same_tup X
  ln := rfl
  pn := fun _ _ => rfl
theorem reps_ex {m : Mode} : ∀ {ds : List D} {vs : List V} {A : List Addr}, Reps W H F m ds vs A →
    ∃ L : List (D × V × List Addr), ds = L.map (·.1) ∧ vs = L.map (·.2.1) ∧ A = (L.map (·.2.2)).flatten ∧ ∀ t ∈ L, Rep W H F m t.1 t.2.1 t.2.2
  | _, _, _, .nil _ => ⟨[], rfl, rfl, rfl, fun _ z => nomatch z⟩
  | _, _, _, .cons (d := d) (v := v) (A := A) h r => by
    obtain ⟨L, h1, h2, h3, h4⟩ := reps_ex r
    refine ⟨(d, v, A) :: L, by simp [h1], by simp [h2], by simp [h3], fun t ht => ?_⟩
    rcases List.mem_cons.mp ht with rfl | q
    · exact h
    · exact h4 t q
theorem reps_mk {m : Mode} : ∀ {L : List (D × V × List Addr)}, (∀ t ∈ L, Rep W H F m t.1 t.2.1 t.2.2) → Reps W H F m (L.map (·.1)) (L.map (·.2.1)) (L.map (·.2.2)).flatten
  | [], _ => .nil _
  | t :: L, h => .cons (h t (by simp)) (reps_mk fun u hu => h u (by simp [hu]))
theorem reps_swap {m : Mode} {ds : List D} {vs : List V} {A : List Addr} {i j : Nat} {di dj : D} {vi vj : V} (r : Reps W H F m ds vs A) (hi : ds[i]? = some di) (hj : ds[j]? = some dj) (ui : vs[i]? = some vi) (uj : vs[j]? = some vj) (nd : A.Nodup) :
    ∃ C, Reps W H F m (swp ds i j di dj) (swp vs i j vi vj) C ∧ C.Nodup ∧ ∀ a ∈ C, a ∈ A := by
  obtain ⟨L, rfl, rfl, rfl, h⟩ := reps_ex r
  have li : i < L.length := by have := lt_of_get hi; simpa using this
  have lj : j < L.length := by have := lt_of_get hj; simpa using this
  have ei : L[i]? = some L[i] := List.getElem?_eq_getElem li
  have ej : L[j]? = some L[j] := List.getElem?_eq_getElem lj
  rw [List.getElem?_map, ei] at hi ui
  rw [List.getElem?_map, ej] at hj uj
  cases hi
  cases hj
  cases ui
  cases uj
  have pm : (swp L i j L[i] L[j]).Perm L := by
    unfold swp
    exact List.set_set_perm lj li
  have pf := (pm.map (·.2.2)).flatten
  refine ⟨_, ?_, pf.nodup_iff.mpr nd, fun a ha => pf.mem_iff.mp ha⟩
  have q := reps_mk (L := swp L i j L[i] L[j]) fun t ht => h t (pm.mem_iff.mp ht)
  unfold swp at q ⊢
  simpa [List.map_set] using q
theorem reps_item {m : Mode} : ∀ {ds : List D} {vs : List V} {A : List Addr} {k : Nat} {d : D}, Reps W H F m ds vs A → ds[k]? = some d → ∃ v, vs[k]? = some v ∧ ∃ B, Rep W H F m d v B := fun r e => by
  obtain ⟨v, A0, A1, A2, _, ev, h1, _⟩ := reps_split r e
  exact ⟨v, ev, A1, h1⟩
theorem sim_swap {i : Nat} {t1 t2 u1 u2 : TE} {f1 f2 g1 g2 : SE} (hf1 : SimE W t1 f1) (hf2 : SimE W t2 f2) (hg1 : SimE W u1 g1) (hg2 : SimE W u2 g2) :
    SimS W (tAsg (tTup (tCons (tOp (rIx W.K) (tVar i) t1) (tCons (tOp (rIx W.K) (tVar i) t2) tNil))) (gTup W.K 2 (gCons (gSub (tVar i) u1 rSetL) (gCons (gSub (tVar i) u2 rSetL) gNil)))) (sSwap i f1 f2 g1 g2) := by
  intro ρ σ H F As DD out S n e k
  unfold sSwap at e
  split at e
  case h_2 => cases e
  rename_i xs hs
  split at e
  case h_2 => cases e
  rename_i ma a ρa mb b ρb mb' b' ρb' ea eb eb'
  split at e
  case h_2 => cases e
  rename_i ja jb eja ejb
  split at e
  case h_2 => cases e
  rename_i da db eda edb
  split at e
  case isFalse => cases e
  rename_i ejb'
  split at e
  case h_2 => cases e
  rename_i ma' a' ρa' ea'
  split at e
  case isFalse => cases e
  rename_i eja'
  cases e
  obtain ⟨l, vs, A, hv, hl, hA, rs⟩ := own_list S hs (by simp)
  have lv : vs.length = xs.length := rs.len.symm
  obtain ⟨va, eva, Ba, ra⟩ := reps_item rs eda
  obtain ⟨vb, evb, _⟩ := reps_item rs edb
  have li : l ∈ As i := by rw [hA]; exact List.mem_cons_self
  have nA : (l :: A).Nodup := by rw [← hA]; exact S.nd i
  have Fl : F l = none := S.fo i l li
  refine ⟨_, hv, pure_int hf1 (sta_all S (Same.refl _)) ea fun H1 X1 => ?_⟩
  refine .inl ⟨l, vs, a, va, rfl, rfl, SqL.of (X1 _ _ hl), atI_of (by rw [lv]; exact eja) eva, ?_⟩
  refine ⟨_, hv, pure_int hf2 (sta_all S X1) eb fun H2 X2 => ?_⟩
  have X12 := X1.trans X2
  refine .inl ⟨l, vs, b, vb, rfl, rfl, SqL.of (X12 _ _ hl), atI_of (by rw [lv]; exact ejb) evb, ?_⟩
  refine ⟨Nat.le_of_ble_eq_true rfl, fun p hp => ?_⟩
  have X3 : Same H2 (upd H2 p (.tup [va, vb])) := fun a o e => by
    rw [upd_ne]
    · exact e
    · rintro rfl; rw [hp] at e; cases e
  have X13 := X12.trans X3
  refine ⟨p, [va, vb], rfl, .inl (.inl upd_same), rfl, va, [vb], rfl, _, hv, ?_⟩
  refine pure_int hg1 (sta_all S X13) eb' fun H4 X4 => ?_
  have X14 := X13.trans X4
  refine ⟨l, vs, b', jb, rfl, rfl, X14 _ _ hl, by rw [lv]; exact ejb', ?_⟩
  have o5 : ∀ a o, H a = some o → a ≠ l → upd H4 l (.lst (vs.set jb va)) a = some o := fun a o e q => by rw [upd_ne q]; exact X14 a o e
  generalize hH5 : upd H4 l (.lst (vs.set jb va)) = H5 at *
  have l5 : H5 l = some (.lst (vs.set jb va)) := by rw [← hH5]; exact upd_same
  have Fn : ∀ a o, F a = some o → a ≠ l := fun a o e q => by rw [q, Fl] at e; cases e
  have FH5 : Same F H5 := fun a o e => o5 a o (S.gh a o (S.fg a o e)) (Fn a o e)
  have tp5 : ∀ a vs, SqT W.K H a vs → SqT W.K H5 a vs := S.tup fun a o e q => o5 a o e fun z => q (z ▸ ⟨i, _, hs, rfl, li⟩)
  have S5 : Sta W (fz (ρ.set i (some ⟨.O, false, .lst (xs.set jb da)⟩))) σ H5 H5 H5 (fun _ => []) := sta_fz (by rw [List.length_set]; exact S.len) fun j s ej => by
    rw [get_set] at ej
    split at ej
    · rename_i q
      cases ej
      obtain ⟨rfl, _⟩ := q
      refine ⟨.ref l, hv, .lstF l5 ?_⟩
      have fr : ∀ {d : List D} {v : List V} {C : List Addr}, Reps W H F .O d v C → (∀ a ∈ C, a ≠ l) → Reps W H5 H5 .F d v [] := fun r q => by
        have r2 := r.froze (G' := H5) FH5 fun a ha => by
          obtain ⟨o, ho, _⟩ := r.own a ha
          rw [ho]; exact o5 a o ho (q a ha)
        exact r2.mono tp5 (Same.refl _) fun _ z => nomatch z
      have r0 := fr rs fun a ha z => (List.nodup_cons.mp nA).1 (z ▸ ha)
      obtain ⟨va2, eva2, B2, ra2⟩ := reps_item r0 eda
      rw [eva] at eva2
      cases eva2
      have := ra2.Fnil rfl
      subst this
      obtain ⟨C, c1, _, c3⟩ := reps_set ra2 List.nodup_nil (k := jb) r0 (lt_of_get edb) List.nodup_nil fun a ha => nomatch ha
      have := c1.Fnil rfl
      subst this
      exact c1
    · rename_i q
      have hne : j ≠ i := fun z => q ⟨z, lt_of_get hs⟩
      obtain ⟨v, hv, r⟩ := S.slot j s ej
      have r2 := r.froze (G' := H5) FH5 fun a ha => by
        obtain ⟨o, ho, _⟩ := r.own a ha
        rw [ho]; exact o5 a o ho fun z => hne (S.dj j i a ha (z ▸ li))
      exact ⟨v, hv, r2.mono tp5 (Same.refl _) fun _ z => nomatch z⟩
  refine ⟨vb, [], rfl, _, hv, ?_⟩
  refine pure_int hg2 S5 ea' fun H6 X6 => ?_
  refine ⟨l, vs.set jb va, a', ja, rfl, rfl, X6 _ _ l5, by rw [List.length_set, lv]; exact eja', rfl, ?_⟩
  obtain ⟨C, c1, c2, c3⟩ := reps_swap rs eda edb eva evb (List.nodup_cons.mp nA).2
  have X7 : Same H (upd H6 l (.lst vs)) := fun a o e => by
    by_cases q : a = l
    · subst q; rw [hl] at e; cases e; exact upd_same
    · rw [upd_ne q]; exact X6 a o (o5 a o e q)
  have st1 := ext_step S n X7
  have c1' : Reps W (upd H6 l (.lst vs)) F .O _ _ C := c1.mono (same_tup X7) (Same.refl _) fun a _ o e => X7 a o e
  obtain ⟨As3, st2⟩ := lst_ok (m' := .O) st1.st n tmp_nil hs hv upd_same hA (by simp) c1' (fun z => by cases z) c2 (fun a ha => .inl (c3 a ha))
  have eu : upd (upd H6 l (.lst vs)) l (.lst (swp vs ja jb va vb)) = upd H6 l (.lst ((vs.set jb va).set ja vb)) := by
    funext a
    by_cases q : a = l
    · subst q; rw [upd_same, upd_same]; rfl
    · rw [upd_ne q, upd_ne q, upd_ne q]
  rw [eu] at st2
  exact k _ _ _ _ (st1.trans st2 fun b hb => nomatch hb)
end
end Tr

namespace Tr
open PySem L2
theorem es_swap (i : Nat) {W : Wd} {X : Cx} {n1 n2 n3 n4 : Expr} {p1 p2 p3 p4 q1 q2 q3 : Pos} {k1 k2 : Nat} {s0 : SS} {t1 t2 u1 u2 : TE} {f1 f2 g1 g2 : SE} {e1 e2 e3 e4 : Expr}
    (h : EvS W X (.Assign [.Tuple [.Subscript n3 e3 p3, .Subscript n4 e4 p4] k1 q1] (.Tuple [.Subscript n1 e1 p1, .Subscript n2 e2 p2] k2 q2) q3) s0 (tAsg (tTup (tCons (tOp (rIx W.K) (tVar i) t1) (tCons (tOp (rIx W.K) (tVar i) t2) tNil))) (gTup W.K 2 (gCons (gSub (tVar i) u1 rSetL) (gCons (gSub (tVar i) u2 rSetL) gNil)))))
    (h1 : EvE W X e1 f1 t1) (h2 : EvE W X e2 f2 t2) (h3 : EvE W X e3 g1 u1) (h4 : EvE W X e4 g2 u2) :
    EvS W X (.Assign [.Tuple [.Subscript n3 e3 p3, .Subscript n4 e4 p4] k1 q1] (.Tuple [.Subscript n1 e1 p1, .Subscript n2 e2 p2] k2 q2) q3) (sSwap i f1 f2 g1 g2) (tAsg (tTup (tCons (tOp (rIx W.K) (tVar i) t1) (tCons (tOp (rIx W.K) (tVar i) t2) tNil))) (gTup W.K 2 (gCons (gSub (tVar i) u1 rSetL) (gCons (gSub (tVar i) u2 rSetL) gNil)))) :=
  ⟨h.1, sim_swap h1.2 h2.2 h3.2 h4.2⟩
end Tr

/-! TrTxt: texts: split, partition, join, slices, str(int), int(text), in, walked. -/
namespace Tr
open PySem PySem.Spec PyProof.Rows L2 RZ
section
variable {W : Wd} {X : Cx} {e a b o : Expr} {es : List Expr} {pos p : Pos} {f g : SE} {x : Str} {ta tb to : TE} {fs : SA} {tA : TA} {H G : Hp}
theorem reps_strs {m : Mode} : ∀ ys : List Str, Reps W H G m (ys.map D.str) (ys.map V.str) []
  | [] => .nil _
  | _ :: ys => .cons (A := []) (B := []) (.str _ _) (reps_strs ys)
theorem flats_strs : ∀ ys : List Str, D.flats (ys.map D.str) = true
  | [] => rfl
  | _ :: ys => by rw [List.map_cons, D.flats, flats_strs ys]; rfl
def strs? : List D → Option (List Str)
  | [] => some []
  | .str b :: r => (strs? r).map (b :: ·)
  | _ :: _ => none
theorem reps_strsOf {m : Mode} : ∀ {xs : List D} {vs : List V} {A : List Addr} {ys : List Str}, Reps W H G m xs vs A → strs? xs = some ys → vs = ys.map V.str
  | [], _, _, ys, .nil _, h => by cases h; rfl
  | x :: xs, _, _, ys, .cons h r, e => by
    cases x with
    | str y =>
      rw [strs?] at e
      cases e1 : strs? xs with
      | none => rw [e1] at e; cases e
      | some zs =>
        rw [e1] at e
        cases e
        obtain ⟨rfl, rfl⟩ := rep_str h
        rw [List.map_cons, reps_strsOf r e1]
    | _ => cases e
/-! ### methods -/
noncomputable def opSplit : List Val → Option Val
  | [⟨_, .str a⟩, ⟨_, .str b⟩] => if ok ((b.length == 0) = false ∧ a.length + 2 ≤ sizeLine) then some ⟨.O, .lst ((Txt.split a b).map D.str)⟩ else none
  | _ => none
noncomputable def opPart : List Val → Option Val
  | [⟨_, .str a⟩, ⟨_, .str b⟩] => if ok ((b.length == 0) = false ∧ a.length ≤ sizeLine) then some ⟨.O, .tup [.str (Txt.partition a b).1, .str (Txt.partition a b).2.1, .str (Txt.partition a b).2.2]⟩ else none
  | _ => none
noncomputable def opJoin : List Val → Option Val
  | [⟨_, .str a⟩, ⟨_, .lst xs⟩] => (strs? xs).bind fun ys => if ok ((ys.map (·.length)).sum + ys.length * a.length ≤ 16777216) then some ⟨.O, .str (Txt.join a ys)⟩ else none
  | _ => none
def rM1 (r : V → List V → Hp → VK → Prop) : R2 := fun x y H Q => r x [y] H Q
theorem sim_m1 {r : V → List V → Hp → VK → Prop} {op : List Val → Option Val} (ha : SimE W to f) (hb : SimE W ta g) (hs : ∀ x y z, op [x, y] = some z → ∃ a, x.d = .str a) (hv : VOp W (rr2 (rM1 r)) op) : SimE W (tM1 r to ta) (sApp2 op f g) := by
  have q : SimE W (tOp (rM1 r) to ta) (sApp2 op f g) := sim_app2 ha hb hv
  have k : SimE W (tM1 r to ta) (sealE fun ρ => match sCons f (sCons g sNil) ρ with
      | some (rs, ρ1) => (match op rs with
        | some r => some (r, ρ1)
        | none => none)
      | none => none) := by
    refine sim_seal ?_
    intro ρ σ H F G As rv ρ' Q S e k
    simp only at e
    split at e
    case h_2 => cases e
    rename_i rs ρ1 e1
    split at e
    case h_2 => cases e
    rename_i r2 e2
    cases e
    unfold sCons at e1
    split at e1
    case h_2 => cases e1
    rename_i rx ρx ex
    split at e1
    case h_2 => cases e1
    rename_i rs' ρy ey
    cases e1
    split at ey
    case h_2 => cases ey
    rename_i ry ρz ez
    simp only [sNil] at ey
    cases ey
    obtain ⟨z, hz⟩ := hs _ _ _ e2
    refine ha ρ σ H F G As _ _ _ S ex fun v H1 G1 As1 B p rep t org => ?_
    obtain ⟨m, d⟩ := rx
    simp only at hz
    subst hz
    obtain ⟨rfl, rfl⟩ := rep_str rep
    refine ⟨⟨_, rfl⟩, ?_⟩
    refine hb _ σ H1 F G1 As1 _ _ _ p.st ez fun u H2 G2 As2 C p2 rep2 t2 o2 => ?_
    have P := p.trans S p2
    have R : RepL W H2 G2 [⟨m, .str z⟩, ry] [.str z, u] C := by
      have := RepL.cons (W := W) (H := H2) (G := G2) (r := ⟨m, .str z⟩) (A := []) (.str m z) (RepL.cons rep2 .nil)
      simpa using this
    have o3 : ∀ b ∈ C, H b = none ∨ ∃ i, b ∈ As i := fun b hb => by
      rcases o2 b hb with y | ⟨j, y⟩
      · exact .inl (p.dom b y)
      · exact (p.an j b y).symm
    refine hv H2 G2 _ _ C _ Q P.st.gh R t2.nd t2.g e2 fun v H3 G3 C3 q => ?_
    obtain ⟨p3, t3, o4⟩ := q.post P S t2 o3
    exact k v H3 G3 As2 C3 p3 q.rep t3 o4
  exact k
def rSplit : V → List V → Hp → VK → Prop := fun x xs H Q => ∃ a b, x = .str a ∧ xs = [.str b] ∧ (b.length == 0) = false ∧ a.length + 2 ≤ sizeLine ∧ rNewStrs (Txt.split a b) H Q
def rPart : V → List V → Hp → VK → Prop := fun x xs H Q => ∃ a b, x = .str a ∧ xs = [.str b] ∧ (b.length == 0) = false ∧ a.length ≤ sizeLine ∧
  ∀ p, H p = none → Q (.ref p) (upd H p (.tup [.str (Txt.partition a b).1, .str (Txt.partition a b).2.1, .str (Txt.partition a b).2.2]))
def rJoin (K : PySem.W.Frag) : V → List V → Hp → VK → Prop := fun x xs H Q => ∃ a p, ∃ ys : List Str, x = .str a ∧ xs = [.ref p] ∧ (SqL K H p (ys.map V.str) ∨ SqT K H p (ys.map V.str)) ∧ (ys.map (·.length)).sum + ys.length * a.length ≤ 16777216 ∧ Q (.str (Txt.join a ys)) H
theorem opSplit_str {x y z : Val} (e : opSplit [x, y] = some z) : ∃ a, x.d = .str a := by
  obtain ⟨m, d⟩ := x
  cases d <;> first | exact ⟨_, rfl⟩ | (simp [opSplit] at e)
theorem opPart_str {x y z : Val} (e : opPart [x, y] = some z) : ∃ a, x.d = .str a := by
  obtain ⟨m, d⟩ := x
  cases d <;> first | exact ⟨_, rfl⟩ | (simp [opPart] at e)
theorem opJoin_str {x y z : Val} (e : opJoin [x, y] = some z) : ∃ a, x.d = .str a := by
  obtain ⟨m, d⟩ := x
  cases d <;> first | exact ⟨_, rfl⟩ | (simp [opJoin] at e)
theorem vop_split : VOp W (rr2 (rM1 rSplit)) opSplit := by
  intro H G rs vs A r Q gh rep nd ga e k
  unfold opSplit at e
  split at e
  case h_2 => cases e
  rename_i m1 a m2 b
  split at e
  case isFalse => cases e
  rename_i hl
  cases e
  obtain ⟨v, w, A1, A2, rfl, rfl, h1, h2⟩ := repL2 rep
  obtain ⟨rfl, rfl⟩ := rep_str h1
  obtain ⟨rfl, rfl⟩ := rep_str h2
  refine ⟨a, b, rfl, rfl, (of_ok hl).1, (of_ok hl).2, fun q hq => ?_⟩
  obtain ⟨G', vp⟩ := vpost_new gh ga hq (reps_strs (W := W) (H := H) (G := lookAt G H ([] ++ [])) (m := .F) (Txt.split a b))
  have em : mkL ((Txt.split a b).map D.str) = ⟨.O, .lst ((Txt.split a b).map D.str)⟩ := by unfold mkL; rw [if_pos (flats_strs _)]
  rw [em] at vp
  exact k _ _ _ _ vp
theorem vop_part : VOp W (rr2 (rM1 rPart)) opPart := by
  intro H G rs vs A r Q gh rep nd ga e k
  unfold opPart at e
  split at e
  case h_2 => cases e
  rename_i m1 a m2 b
  split at e
  case isFalse => cases e
  rename_i hl
  cases e
  obtain ⟨v, w, A1, A2, rfl, rfl, h1, h2⟩ := repL2 rep
  obtain ⟨rfl, rfl⟩ := rep_str h1
  obtain ⟨rfl, rfl⟩ := rep_str h2
  refine ⟨a, b, rfl, rfl, (of_ok hl).1, (of_ok hl).2, fun q hq => ?_⟩
  have kp := upd_keep (u := .tup [.str (Txt.partition a b).1, .str (Txt.partition a b).2.1, .str (Txt.partition a b).2.2]) hq
  have T : SqT W.K (upd H q (.tup [.str (Txt.partition a b).1, .str (Txt.partition a b).2.1, .str (Txt.partition a b).2.2])) q _ := SqT.of upd_same
  have gu : Same G (upd H q (.tup [.str (Txt.partition a b).1, .str (Txt.partition a b).2.1, .str (Txt.partition a b).2.2])) := fun a o e => kp a o (gh a o e)
  exact k _ _ G [] ⟨kp, Same.refl _, gu, fun _ e n => absurd e n, .tup T (reps_strs (W := W) [(Txt.partition a b).1, (Txt.partition a b).2.1, (Txt.partition a b).2.2]), List.nodup_nil, fun _ z => (nomatch z), fun _ z => (nomatch z)⟩
theorem vop_join : VOp W (rr2 (rM1 (rJoin W.K))) opJoin := by
  intro H G rs vs A r Q gh rep nd ga e k
  unfold opJoin at e
  split at e
  case h_2 => cases e
  rename_i m1 a m2 xs
  cases e1 : strs? xs with
  | none => rw [e1] at e; cases e
  | some ys =>
    rw [e1] at e
    simp only [Option.bind_some] at e
    split at e
    case isFalse => cases e
    rename_i hl
    cases e
    obtain ⟨v, w, A1, A2, rfl, rfl, h1, h2⟩ := repL2 rep
    obtain ⟨rfl, rfl⟩ := rep_str h1
    obtain ⟨l, us, rfl, ha, ra⟩ := rep_lst gh h2 (lookAt_same (A := A2) fun a z => ga a (List.mem_append_right _ z)) fun a z => lookAt_in z
    rw [reps_strsOf ra e1] at ha
    exact ⟨a, l, ys, rfl, rfl, .inl (SqL.of ha), of_ok hl, k _ H G [] (vpost_same gh (.str _ _))⟩
theorem ev_split {apos : Pos} (ho : EvE W X o f to) (he : EvE W X e g ta) (hs : starEach [e] X.env = [(false, eval e X.env)] := by rfl) (hbase : attributeBase o "split" X.env (eval o X.env) = eval o X.env := by rfl) (hline : (apos.endLine == pos.line) = true := by rfl) :
    EvE W X (.Call (.Attribute o "split" apos) [e] [] pos) (sApp2 opSplit f g) (tM1 rSplit to ta) :=
  ⟨pe_split ho.1 he.1 hs hbase hline, sim_m1 ho.2 he.2 (fun x y z e => opSplit_str e) vop_split⟩
theorem ev_part {apos : Pos} (ho : EvE W X o f to) (he : EvE W X e g ta) (hs : starEach [e] X.env = [(false, eval e X.env)] := by rfl) (hbase : attributeBase o "partition" X.env (eval o X.env) = eval o X.env := by rfl) (hline : (apos.endLine == pos.line) = true := by rfl) :
    EvE W X (.Call (.Attribute o "partition" apos) [e] [] pos) (sApp2 opPart f g) (tM1 rPart to ta) :=
  ⟨pe_partition ho.1 he.1 hs hbase hline, sim_m1 ho.2 he.2 (fun x y z e => opPart_str e) vop_part⟩
theorem ev_join {apos : Pos} (ho : EvE W X o f to) (he : EvE W X e g ta) (hs : starEach [e] X.env = [(false, eval e X.env)] := by rfl) (hbase : attributeBase o "join" X.env (eval o X.env) = eval o X.env := by rfl) (hline : (apos.endLine == pos.line) = true := by rfl) (hK : X.K = W.K := by rfl) :
    EvE W X (.Call (.Attribute o "join" apos) [e] [] pos) (sApp2 opJoin f g) (tM1 (rJoin W.K) to ta) :=
  ⟨hK ▸ pe_join ho.1 he.1 hs hbase hline, sim_m1 ho.2 he.2 (fun x y z e => opJoin_str e) vop_join⟩
/-! ### str(int), int(text) -/
noncomputable def opStrI : List Val → Option Val
  | [⟨_, .int i⟩] => if ok (i.natAbs.log2 < 1920) then some ⟨.O, .str (toString i)⟩ else none
  | _ => none
def rStrI : RV := fun xs H Q => ∃ i : Int, xs = [.int i] ∧ i.natAbs.log2 < 1920 ∧ Q (.str (toString i)) H
theorem vop_strI : VOp W rStrI opStrI := by
  intro H G rs vs A r Q gh rep nd ga e k
  unfold opStrI at e
  split at e
  case h_2 => cases e
  split at e
  case isFalse => cases e
  rename_i hl
  cases e
  obtain ⟨v, rfl, h1⟩ := repL1 rep
  obtain ⟨rfl, rfl⟩ := rep_int h1
  exact ⟨_, rfl, of_ok hl, k _ H G [] (vpost_same gh (.str _ _))⟩
noncomputable def opIntS : List Val → Option Val
  | [⟨_, .str a⟩] => if ok (a.length ≤ 640) then (PySem.intText? a).map fun n => ⟨.O, .int n⟩ else none
  | _ => none
def rIntS : RV := fun xs H Q => ∃ (a : Str) (n : Int), xs = [.str a] ∧ PySem.intText? a = some n ∧ a.length ≤ 640 ∧ Q (.int n) H
theorem vop_intS : VOp W rIntS opIntS := by
  intro H G rs vs A r Q gh rep nd ga e k
  unfold opIntS at e
  split at e
  case h_2 => cases e
  rename_i m a
  split at e
  case isFalse => cases e
  rename_i hl
  cases e1 : PySem.intText? a with
  | none => rw [e1] at e; cases e
  | some n =>
    rw [e1] at e
    cases e
    obtain ⟨v, rfl, h1⟩ := repL1 rep
    obtain ⟨rfl, rfl⟩ := rep_str h1
    exact ⟨_, _, rfl, e1, of_ok hl, k _ H G [] (vpost_same gh (.int _ _))⟩
theorem ev_str1 (hg : Gl X "str") (hm : X.mg "str" = none) (ha : EvA W X (e :: es) fs tA) (he : starEach (e :: es) X.env = (false, eval e X.env) :: starEach es X.env := by rfl) (hpl : (backTo pos (starEach es X.env)).any (·.1) = false := by rfl) :
    EvE W X (.Call (.Name "str" p) (e :: es) [] pos) (sApp opStrI fs) (tCB rStrI tA) := ev_bty call_str_int vop_strI hg hm (by decide +kernel) ha (by decide) (by decide) he hpl
theorem ev_intS (hg : Gl X "int") (hm : X.mg "int" = none) (ha : EvA W X (e :: es) fs tA) (he : starEach (e :: es) X.env = (false, eval e X.env) :: starEach es X.env := by rfl) (hpl : (backTo pos (starEach es X.env)).any (·.1) = false := by rfl) :
    EvE W X (.Call (.Name "int" p) (e :: es) [] pos) (sApp opIntS fs) (tCB rIntS tA) := ev_bty call_int_str vop_intS hg hm (by decide +kernel) ha (by decide) (by decide) he hpl
/-! ### slices of texts -/
noncomputable def sCutS (f : SE) (l u : Env → Option (Option Int × Env)) : SE := sealE fun ρ =>
  match f ρ with
  | some (⟨_, .str z⟩, ρ1) =>
    match l ρ1 with
    | some (lo, ρ2) =>
      match u ρ2 with
      | some (hi, ρ3) => if ok (z.length ≤ sizeLine) then some (⟨.O, .str (L2.cutS z lo hi)⟩, ρ3) else none
      | none => none
    | none => none
  | _ => none
theorem sim_cutS {te : TE} {tl th : TO} {l u : Env → Option (Option Int × Env)} (hf : SimE W te f) (hl : SimO W tl l) (hu : SimO W th u) : SimE W (tSl rSlS te tl th) (sCutS f l u) := by
  refine sim_seal ?_
  intro ρ σ H F G As r ρ' Q S e k
  simp only at e
  split at e
  case h_2 => cases e
  rename_i m z ρ1 e1
  split at e
  case h_2 => cases e
  rename_i lo ρ2 e2
  split at e
  case h_2 => cases e
  rename_i hi ρ3 e3
  split at e
  case isFalse => cases e
  rename_i hz
  cases e
  refine hf ρ σ H F G As _ _ _ S e1 fun v H1 G1 As1 B p rep t org => ?_
  obtain ⟨rfl, rfl⟩ := rep_str rep
  refine hl _ σ H1 F G1 As1 _ _ _ p.st e2 fun H2 As2 p2 => ?_
  refine hu _ σ H2 F G1 As2 _ _ _ p2.st e3 fun H3 As3 p3 => ?_
  have P := (p.trans S p2).trans S p3
  exact ⟨z, rfl, of_ok hz, k _ _ G1 As3 [] P (.str _ _) tmp_nil fun _ y => nomatch y⟩
theorem ev_cutS {lo hi : Option Expr} {p2 : Pos} {l r : Env → Option (Option Int × Env)} {tl tr : TO} (h : EvE W X e f ta) (hl : EvO W X lo l tl) (hr : EvO W X hi r tr) : EvE W X (.Subscript e (.Slice lo hi none p2) pos) (sCutS f l r) (tSl rSlS ta tl tr) :=
  ⟨pe_slice sl_str h.1 hl.1 hr.1, sim_cutS h.2 hl.2 hr.2⟩
/-! ### one sign in a text -/
noncomputable def opInS (neg : Bool) : List Val → Option Val
  | [⟨_, .str c⟩, ⟨_, .str z⟩] =>
    match c.cps.toList with
    | [k] => some ⟨.O, .bl (xor neg (decide (k ∈ z.cps.toList)))⟩
    | _ => none
  | _ => none
def rInS1 (neg : Bool) : R2 := fun x y H Q => ∃ (c : Nat) (z : Str), x = .str ⟨#[c]⟩ ∧ y = .str z ∧ Q (.bl (xor neg (decide (c ∈ z.cps.toList)))) H
theorem vop_inS (neg : Bool) : VOp W (rr2 (rInS1 neg)) (opInS neg) := by
  intro H G rs vs A r Q gh rep nd ga e k
  unfold opInS at e
  split at e
  case h_2 => cases e
  rename_i m1 c m2 z
  split at e
  case h_2 => cases e
  rename_i n hn
  cases e
  obtain ⟨v, w, A1, A2, rfl, rfl, h1, h2⟩ := repL2 rep
  obtain ⟨rfl, rfl⟩ := rep_str h1
  obtain ⟨rfl, rfl⟩ := rep_str h2
  have ec : c = ⟨#[n]⟩ := by
    obtain ⟨cs⟩ := c
    congr
    exact Array.toList_inj.mp (by simpa using hn)
  exact ⟨n, z, by rw [ec], rfl, k _ H G [] (vpost_same gh (.bl _ _))⟩
theorem op_inS1 : OpR X (compareOp .In) (rInS1 false) := fun pins s σ H x y v u Q I rx ry h => by
  obtain ⟨c, z, rfl, rfl, q⟩ := h
  exact op_in_sign pins s σ H _ _ v u Q I rx ry ⟨c, z, rfl, rfl, by simpa using q⟩
theorem op_notInS1 : OpR X (compareOp .NotIn) (rInS1 true) := fun pins s σ H x y v u Q I rx ry h => by
  obtain ⟨c, z, rfl, rfl, q⟩ := h
  exact op_notIn_sign pins s σ H _ _ v u Q I rx ry ⟨c, z, rfl, rfl, by simpa using q⟩
theorem ev_inS (ha : EvE W X a f ta) (hb : EvE W X b g tb) (hm : behindInMarks .In b = false := by rfl) : EvE W X (.Compare a [.In] [b] pos) (sApp2 (opInS false) f g) (tOp (rInS1 false) ta tb) := ev_cmp op_inS1 (vop_inS false) ha hb hm
theorem ev_notInS (ha : EvE W X a f ta) (hb : EvE W X b g tb) (hm : behindInMarks .NotIn b = false := by rfl) : EvE W X (.Compare a [.NotIn] [b] pos) (sApp2 (opInS true) f g) (tOp (rInS1 true) ta tb) := ev_cmp op_notInS1 (vop_inS true) ha hb hm
theorem et_inS (ha : EvE W X a f ta) (hb : EvE W X b g tb) (hm : behindInMarks .In b = false := by rfl) : EvT W X (.Compare a [.In] [b] pos) (sTest (sApp2 (opInS false) f g)) (tTest (tOp (rInS1 false) ta tb)) := et_cmp op_inS1 (vop_inS false) ha hb hm
theorem et_notInS (ha : EvE W X a f ta) (hb : EvE W X b g tb) (hm : behindInMarks .NotIn b = false := by rfl) : EvT W X (.Compare a [.NotIn] [b] pos) (sTest (sApp2 (opInS true) f g)) (tTest (tOp (rInS1 true) ta tb)) := et_cmp op_notInS1 (vop_inS true) ha hb hm
/-! ### a text walked -/
def signs (z : Str) : List D := z.cps.toList.map fun c => D.str ⟨#[c]⟩
def iTxt (f : SE) : SI := fun ρ =>
  match f ρ with
  | some (⟨_, .str z⟩, ρ1) => some (signs z, ρ1)
  | _ => none
theorem str_iter {z : Str} : IterOk W (Its z) G H (signs z) := by
  have el : (signs z).length = z.cps.size := by simp [signs]
  refine ⟨fun H1 i L hi => by show i < z.cps.size; rw [← el]; exact hi, fun H1 L => by show z.cps.size ≤ _; rw [← el]; exact Nat.le_refl _, fun H1 i x H2 d L hd y => ?_⟩
  obtain ⟨rfl, c, hc, rfl⟩ := y
  unfold signs at hd
  rw [List.getElem?_map] at hd
  have e : z.cps.toList[i]? = some c := by simpa using hc
  rw [e] at hd
  cases hd
  exact ⟨fun _ _ e => e, .str _ _⟩
theorem sim_itxt {te : TE} (h : SimE W te f) : SimI W (iStr te) (iTxt f) := by
  intro ρ σ H F G As ds ρ' R S e k
  unfold iTxt at e
  split at e
  case h_2 => cases e
  rename_i m z ρ1 e1
  cases e
  refine h ρ σ H F G As _ _ _ S e1 fun v H1 G1 As1 B p rep t org => ?_
  obtain ⟨rfl, rfl⟩ := rep_str rep
  exact ⟨z, rfl, k _ H1 G1 As1 p str_iter⟩
theorem ei_txt {tg : Expr} (h : EvE W X e f ta) : EvI W X tg e (iTxt f) (iStr ta) := ⟨pi_str h.1, sim_itxt h.2⟩
/-! ### constants -/
theorem ev_globS {x : Str} {z : Str} {k : Tok} {pos : Pos} (hg : Gl X x) (hm : X.mg x = some (.str z k)) (hdb : (x == ("__debug__" : Str)) = false := by decide) : EvE W X (.Name x pos) (sCon (.str z)) (tC (.str z)) :=
  ev_glob hg hm ⟨k, rfl⟩ (fun _ _ => .str _ _) hdb
end
end Tr

/-! TrExc: defs that may raise: beside what a piece gives, the class of what it raises. -/
namespace Tr
open PySem PySem.Spec PyProof.Rows L2 RZ
abbrev XE := Env → Option (String × Env)
def SimEX (W : Wd) (Wx : WX) (t : TE) (fx : XE) : Prop :=
  ∀ (ρ : Env) (σ : L2.St) (H F G : Hp) (As : Nat → List Addr) (c : String) (ρ' : Env) (Q : VK), Sta W ρ σ H F G As → fx ρ = some (c, ρ') →
    (∀ H' G' As', Post W ρ σ H F G As ρ' H' G' As' → Wx (.ref (W.cls c)) none σ H') → t σ H Q
def SimAX (W : Wd) (Wx : WX) (t : TA) (fx : XE) : Prop :=
  ∀ (ρ : Env) (σ : L2.St) (H F G : Hp) (As : Nat → List Addr) (c : String) (ρ' : Env) (Q : List V → Hp → Prop), Sta W ρ σ H F G As → fx ρ = some (c, ρ') →
    (∀ H' G' As', Post W ρ σ H F G As ρ' H' G' As' → Wx (.ref (W.cls c)) none σ H') → t σ H Q
def SimIX (W : Wd) (Wx : WX) (t : TI) (fx : XE) : Prop :=
  ∀ (ρ : Env) (σ : L2.St) (H F G : Hp) (As : Nat → List Addr) (c : String) (ρ' : Env) (R : It → Hp → Prop), Sta W ρ σ H F G As → fx ρ = some (c, ρ') →
    (∀ H' G' As', Post W ρ σ H F G As ρ' H' G' As' → Wx (.ref (W.cls c)) none σ H') → t σ H R
def SimSX (W : Wd) (Wx : WX) (t : TS) (fx : XE) : Prop :=
  ∀ (ρ : Env) (σ : L2.St) (H F : Hp) (As : Nat → List Addr) (D : Ends) (c : String) (ρ' : Env), Sta W ρ σ H F F As → NoLk ρ → fx ρ = some (c, ρ') →
    (∀ σ' H' F' As', Step W [] ρ σ H F As ρ' σ' H' F' As' → Wx (.ref (W.cls c)) none σ' H') → t D σ H
def xNo : XE := fun _ => none
def xCons (fx : XE) (f : SE) (gx : XE) : XE := fun ρ =>
  match fx ρ with
  | some r => some r
  | none => match f ρ with
    | some (_, ρ1) => gx ρ1
    | none => none
def xApp (fx : XE) : XE := fun ρ => (fx ρ).map fun r => (r.1, restore ρ r.2)
def xCall (gx : List D → Option String) (fs : SA) (fx : XE) : XE := fun ρ =>
  match fx ρ with
  | some r => some (r.1, restore ρ r.2)
  | none => match fs ρ with
    | some (rs, ρ1) => (gx (rs.map fun (x : Val) => x.d)).map fun c => (c, restore ρ ρ1)
    | none => none
/-- at the end of a statement -/
def xOf (fx : XE) : XE := fun ρ => (fx ρ).map fun r => (r.1, freeze2 ρ r.2)
def xRaise (c : String) : XE := fun ρ => some (c, ρ)
def xSeq (fx : XE) (f : SS) (gx : XE) : XE := fun ρ =>
  match fx ρ with
  | some r => some r
  | none => match f ρ with
    | some (.nx ρ1) => gx ρ1
    | _ => none
def xIf (s : SB) (fx gx : XE) : XE := fun ρ =>
  match s ρ with
  | some (true, ρ1) => fx ρ1
  | some (false, ρ1) => gx ρ1
  | none => none
def forX (g : STg) (b : SS) (bx : XE) : List D → XE
  | [], _ => none
  | d :: ds, ρ =>
    match g (nrm .F d) ρ with
    | some ρ1 =>
      match bx ρ1 with
      | some r => some r
      | none =>
        match b ρ1 with
        | some (.nx ρ2) => forX g b bx ds ρ2
        | some (.ct ρ2) => forX g b bx ds ρ2
        | _ => none
    | none => none
def xFor (sx : XE) (src : SI) (g : STg) (b : SS) (bx : XE) : XE := fun ρ =>
  match sx ρ with
  | some r => some (r.1, freeze2 ρ r.2)
  | none => match src ρ with
    | some (ds, ρ1) => forX g b bx ds (freeze2 ρ ρ1)
    | none => none
section
variable {W : Wd} {Wx : WX} {ρ ρ' ρ1 ρ2 : Env} {σ σ' σ1 σ2 : L2.St} {H F G H' F' G' H1 F1 G1 H2 F2 G2 : Hp} {As As' As1 As2 : Nat → List Addr} {B : List Addr}
theorem simEX_no {t : TE} : SimEX W Wx t xNo := fun _ _ _ _ _ _ _ _ _ _ e _ => nomatch e
theorem simAX_no {t : TA} : SimAX W Wx t xNo := fun _ _ _ _ _ _ _ _ _ _ e _ => nomatch e
theorem simIX_no {t : TI} : SimIX W Wx t xNo := fun _ _ _ _ _ _ _ _ _ _ e _ => nomatch e
theorem simSX_no {t : TS} : SimSX W Wx t xNo := fun _ _ _ _ _ _ _ _ _ _ e _ => nomatch e
theorem simAX_cons {ta : TE} {tA : TA} {fx gx : XE} {f : SE} (hx : SimEX W Wx ta fx) (hf : SimE W ta f) (hg : SimAX W Wx tA gx) : SimAX W Wx (tCons ta tA) (xCons fx f gx) := by
  intro ρ σ H F G As c ρ' Q S e k
  unfold xCons at e
  cases e1 : fx ρ with
  | some r =>
    rw [e1] at e
    cases e
    exact hx ρ σ H F G As _ _ _ S e1 k
  | none =>
    rw [e1] at e
    cases e2 : f ρ with
    | none => rw [e2] at e; cases e
    | some x =>
      obtain ⟨r, ρ1⟩ := x
      rw [e2] at e
      refine hf ρ σ H F G As _ _ _ S e2 fun v H1 G1 As1 B p rep t org => ?_
      exact hg ρ1 σ H1 F G1 As1 _ _ _ p.st e fun H' G' As' q => k H' G' As' (p.trans S q)
theorem simEX_app {tA : TA} {rr : RV} {fx : XE} (h : SimAX W Wx tA fx) : SimEX W Wx (tCB rr tA) (xApp fx) := by
  intro ρ σ H F G As c ρ' Q S e k
  unfold xApp at e
  cases e1 : fx ρ with
  | none => rw [e1] at e; cases e
  | some r =>
    rw [e1] at e
    cases e
    exact h ρ σ H F G As _ _ _ S e1 fun H' G' As' p => k H' G As' (p.restore S)
theorem Sta.growG (S : Sta W ρ σ H F G As) (h : ∀ a o, H a = some o → H' a = some o) : Sta W ρ σ H' F G As := by
  refine ⟨S.len, fun i s e => ?_, fun i s e l a ha => ?_, S.free, S.none, S.nd, S.dj, S.fo, S.fg, fun a o e => h a o (S.gh a o e)⟩
  · obtain ⟨v, hv, r⟩ := S.slot i s e
    exact ⟨v, hv, r.mono (S.tup fun a o e _ => h a o e) (Same.refl _) fun a _ o e => h a o e⟩
  · obtain ⟨o, eo, _⟩ := S.own ha
    have z := S.lock i s e l a ha
    rw [z, eo, h a o eo]
theorem Post.growG (p : Post W ρ σ H F G As ρ1 H1 G1 As1) (h : ∀ a o, H1 a = some o → H' a = some o) : Post W ρ σ H F G As ρ1 H' G1 As1 :=
  ⟨p.st.growG h, fun a o e n => h a o (p.keep a o e n), fun a e => p.dom a (by
    cases q : H1 a with
    | none => rfl
    | some o => rw [h a o q] at e; cases e), p.gg, p.gn, p.an, p.ul, p.lk, p.nw⟩
/-- a def's promise that tells what it raises, too -/
def spX (W : Wd) (n : Nat) (g : List D → Option Val) (gx : List D → Option String) : Sp := fun vs H Q E =>
  spPure W n g vs H Q E ∨ ∃ ds G c, ds.length = n ∧ Same G H ∧ Reps W H G .F ds vs [] ∧ gx ds = some c ∧ ∀ H', (∀ a o, H a = some o → H' a = some o) → E (.ref (W.cls c)) none H'
theorem spX_len {n : Nat} {g : List D → Option Val} {gx : List D → Option String} : ∀ vs H Q E, spX W n g gx vs H Q E → vs.length = n := by
  rintro vs H Q E (h | ⟨ds, G, c, hl, _, rp, _⟩)
  · exact spPure_len vs H Q E h
  · rw [← rp.len]; exact hl
theorem simE_callX {n : Nat} {o : List D → Option Val} {ox : List D → Option String} {fs : SA} {ta : TA} {E : L2.St → XK} (hn : ∀ ds, (o ds).isSome = true → ds.length = n) (ha : SimA W ta fs) : SimE W (tCallS (spX (W0 W.K W.cls) n o ox) E ta) (sApp (opFn o) fs) := by
  intro ρ σ H F G As r ρ' Q S e k
  have vx : VOp W (fun vs H Q => spX (W0 W.K W.cls) n o ox vs H Q (E σ)) (opFn o) := fun H G rs vs A r Q gh rep nd ga e k => by
    have := spPure_call (E := E σ) hn H G rs vs A r Q gh rep nd ga e k
    simp only [List.append_nil] at this
    exact .inl this
  exact sim_app (rr := fun vs H Q => spX (W0 W.K W.cls) n o ox vs H Q (E σ)) ha vx ρ σ H F G As r ρ' Q S e k
theorem simEX_call {n : Nat} {o : List D → Option Val} {ox : List D → Option String} {fs : SA} {ta : TA} {fx : XE} (hn : ∀ ds, (ox ds).isSome = true → ds.length = n) (ha : SimA W ta fs) (hx : SimAX W Wx ta fx) : SimEX W Wx (tCallS (spX (W0 W.K W.cls) n o ox) (WE Wx) ta) (xCall ox fs fx) := by
  intro ρ σ H F G As c ρ' Q S e k
  unfold xCall at e
  cases e1 : fx ρ with
  | some r =>
    rw [e1] at e
    cases e
    exact hx ρ σ H F G As _ _ _ S e1 fun H' G' As' p => k H' G As' (p.restore S)
  | none =>
    rw [e1] at e
    cases e2 : fs ρ with
    | none => rw [e2] at e; cases e
    | some x =>
      obtain ⟨rs, ρ1⟩ := x
      rw [e2] at e
      simp only at e
      cases e3 : ox (rs.map fun (x : Val) => x.d) with
      | none => rw [e3] at e; cases e
      | some c1 =>
        rw [e3] at e
        cases e
        refine ha ρ σ H F G As _ _ _ S e2 fun vs H1 G1 As1 B p rep t org => ?_
        have s1 : Same G1 (lookAt G1 H1 B) := lookAt_same t.g
        have rf := rep.froze (G' := lookAt G1 H1 B) s1 fun a ha => lookAt_in ha
        have rf : Reps (W0 W.K W.cls) H1 (lookAt G1 H1 B) .F (rs.map fun (x : Val) => x.d) vs [] := by
          obtain ⟨K, cl, pn⟩ := W
          exact rf.pin
        refine .inr ⟨_, lookAt G1 H1 B, c, hn _ (by rw [e3]; rfl), lookAt_sub p.st.gh, rf, e3, fun H' kp => ?_⟩
        exact k H' G As1 ((p.growG kp).restore S)
/-! ### statements -/
theorem simSX_asg {te : TE} {g : TG} {fx : XE} (h : SimEX W Wx te fx) : SimSX W Wx (tAsg te g) (xOf fx) := by
  intro ρ σ H F As D c ρ' S n e k
  unfold xOf at e
  cases e1 : fx ρ with
  | none => rw [e1] at e; cases e
  | some r =>
    rw [e1] at e
    cases e
    refine h ρ σ H F F As _ _ _ S e1 fun H' G' As' p => ?_
    obtain ⟨As2, q, _⟩ := settleF_ok S n p
    rw [← freeze2_eq S n p] at q
    exact k σ H' G' As2 q
theorem simSX_ret {te : TE} {fx : XE} (h : SimEX W Wx te fx) : SimSX W Wx (tRet te) (xOf fx) := by
  intro ρ σ H F As D c ρ' S n e k
  unfold xOf at e
  cases e1 : fx ρ with
  | none => rw [e1] at e; cases e
  | some r =>
    rw [e1] at e
    cases e
    refine h ρ σ H F F As _ _ _ S e1 fun H' G' As' p => ?_
    obtain ⟨As2, q, _⟩ := settleF_ok S n p
    rw [← freeze2_eq S n p] at q
    exact k σ H' G' As2 q
theorem simSX_drop {te : TE} {fx : XE} (h : SimEX W Wx te fx) : SimSX W Wx (tDrop te) (xOf fx) := by
  intro ρ σ H F As D c ρ' S n e k
  unfold xOf at e
  cases e1 : fx ρ with
  | none => rw [e1] at e; cases e
  | some r =>
    rw [e1] at e
    cases e
    refine h ρ σ H F F As _ _ _ S e1 fun H' G' As' p => ?_
    obtain ⟨As2, q, _⟩ := settleF_ok S n p
    rw [← freeze2_eq S n p] at q
    exact k σ H' G' As2 q
theorem simSX_seq {t u : TS} {f : SS} {fx gx : XE} (hx : SimSX W Wx t fx) (hf : SimS W t f) (hg : SimSX W Wx u gx) : SimSX W Wx (tSeq t u) (xSeq fx f gx) := by
  intro ρ σ H F As D c ρ' S n e k
  unfold xSeq at e
  cases e1 : fx ρ with
  | some r =>
    rw [e1] at e
    cases e
    exact hx ρ σ H F As _ _ _ S n e1 k
  | none =>
    rw [e1] at e
    simp only at e
    split at e
    · rename_i ρ1 e2
      refine hf ρ σ H F As _ _ S n e2 ?_
      intro σ1 H1 F1 As1 p
      exact hg _ σ1 H1 F1 As1 D _ _ p.st p.nl e fun σ' H' F' As' q => k σ' H' F' As' (p.trans q fun _ z => nomatch z)
    · cases e
theorem simSX_if {c : TT} {t u : TS} {s : SB} {fx gx : XE} (hc : SimT W c s) (hf : SimSX W Wx t fx) (hg : SimSX W Wx u gx) : SimSX W Wx (tIfS c t u) (xIf s fx gx) := by
  intro ρ σ H F As D c ρ' S n e k
  unfold xIf at e
  split at e
  · rename_i ρ1 e1
    refine hc ρ σ H F F As _ _ _ S e1 fun H1 As1 p l => iteT ?_
    have q := test_step (b := true) S n p (l n)
    exact hf _ σ H1 F As1 D _ _ p.st (l n) e fun σ' H' F' As' r => k σ' H' F' As' (q.trans r fun _ z => nomatch z)
  · rename_i ρ1 e1
    refine hc ρ σ H F F As _ _ _ S e1 fun H1 As1 p l => iteF ?_
    have q := test_step (b := true) S n p (l n)
    exact hg _ σ H1 F As1 D _ _ p.st (l n) e fun σ' H' F' As' r => k σ' H' F' As' (q.trans r fun _ z => nomatch z)
  · cases e
theorem simSX_raise {c : String} : SimSX W Wx (fun _ σ H => Wx (.ref (W.cls c)) none σ H) (xRaise c) := by
  intro ρ σ H F As D c' ρ' S n e k
  cases e
  exact k σ H F As (Step.refl S n)
theorem simIX_sq {te : TE} {fx : XE} (h : SimEX W Wx te fx) : SimIX W Wx (iSeq W.K te) fx := by
  intro ρ σ H F G As c ρ' R S e k
  exact h ρ σ H F G As _ _ _ S e k
theorem simSX_for {wi : TI} {g : TG} {t : TS} {s : SI} {gf : STg} {f : SS} {ws : List Nat} {sx fx : XE} (hi : SimI W wi s) (hix : SimIX W Wx wi sx) (hg : SimG W ws g gf) (hf : SimS W t f) (hfx : SimSX W Wx t fx) : SimSX W Wx (tFor wi g t) (xFor sx s gf f fx) := by
  intro ρ σ H F As D c ρ' S n e k
  unfold xFor at e
  cases e0 : sx ρ with
  | some r =>
    rw [e0] at e
    cases e
    refine hix ρ σ H F F As _ _ _ S e0 fun H' G' As' p => ?_
    obtain ⟨As2, q, _⟩ := settleF_ok S n p
    rw [← freeze2_eq S n p] at q
    exact k σ H' G' As2 q
  | none =>
    rw [e0] at e
    simp only at e
    split at e
    case h_2 => cases e
    rename_i ds ρ1 e1
    refine hi ρ σ H F F As ds _ _ S e1 fun J H1 G1 As1 p ok => ?_
    obtain ⟨As2, q, _⟩ := settleF_ok S n p
    rw [freeze2_eq S n p] at e
    have k : ∀ σ' H' F' As', Step W [] (freeze ρ1) σ H1 G1 As2 ρ' σ' H' F' As' → Wx (.ref (W.cls c)) none σ' H' := fun σ' H' F' As' r => k σ' H' F' As' (q.trans r fun _ z => nomatch z)
    have S1 := q.st
    have n1 := q.nl
    clear q p
    refine ⟨fun i m σ' H' => m = ds.length - i ∧ i ≤ ds.length ∧ ∃ ρ2 F' As', Step W [] (freeze ρ1) σ H1 G1 As2 ρ2 σ' H' F' As' ∧ forX gf f fx (ds.drop i) ρ2 = some (c, ρ'),
      ⟨ds.length, by simp, Nat.zero_le _, freeze ρ1, G1, As2, Step.refl S1 n1, e⟩, ?_⟩
    rintro i m σ' H' ⟨rfl, hle, ρ2, F', As', p, e2⟩
    have L : Later W G1 H1 H' := ⟨fun a o e => p.st.gh a o (p.ff a o e), p.tp⟩
    by_cases hlt : i < ds.length
    · refine .inr ⟨ok.go H' i L hlt, fun σ2 H2 => ∃ ρ2 F2 As2', Step W [] (freeze ρ1) σ H1 G1 As2 ρ2 σ2 H2 F2 As2' ∧ forX gf f fx (ds.drop (i + 1)) ρ2 = some (c, ρ'), fun σ2 H2 z => ⟨ds.length - (i + 1), by omega, rfl, hlt, z⟩, fun x H2 y => ?_⟩
      obtain ⟨kp, rx⟩ := ok.yld H' i x H2 ds[i] L (by simp [hlt]) y
      have ed : ds.drop i = ds[i] :: ds.drop (i + 1) := List.drop_eq_getElem_cons hlt
      rw [ed, forX] at e2
      split at e2
      case h_2 => cases e2
      rename_i ρ3 e3
      have q1 := p.trans (grow_step p.st p.nl kp) fun _ z => nomatch z
      refine hg ρ2 σ' H2 F' As' _ x [] _ _ q1.st q1.nl ((rx.mono (fun _ _ z => z) p.ff fun _ z => nomatch z).nrm) tmp_nil e3 fun σ3 H3 F3 As3 r _ => ?_
      have q2 := q1.trans r fun _ z => nomatch z
      cases e5 : fx ρ3 with
      | some r =>
        simp only [e5] at e2
        cases e2
        exact hfx ρ3 σ3 H3 F3 As3 _ _ _ q2.st q2.nl e5 fun σ4 H4 F4 As4 r => k σ4 H4 F4 As4 (q2.trans r fun _ z => nomatch z)
      | none =>
        simp only [e5] at e2
        cases e4 : f ρ3 with
        | none =>
          simp only [e4] at e2
          cases e2
        | some o =>
          simp only [e4] at e2
          refine hf ρ3 σ3 H3 F3 As3 _ o q2.st q2.nl e4 ?_
          cases o with
          | nx ρ4 => exact fun σ4 H4 F4 As4 r => ⟨ρ4, F4, As4, q2.trans r (fun _ z => nomatch z), e2⟩
          | ct ρ4 => exact fun σ4 H4 F4 As4 r => ⟨ρ4, F4, As4, q2.trans r (fun _ z => nomatch z), e2⟩
          | bk ρ4 => cases e2
          | rt r ρ4 => cases e2
    · have ei : i = ds.length := by omega
      subst ei
      rw [List.drop_length, forX] at e2
      cases e2
end
/-! ### in the text -/
abbrev EvEX (W : Wd) (Wx : WX) (X : Cx) (e : Expr) (f : SE) (fx : XE) (t : TE) : Prop := PE X e t ∧ SimE W t f ∧ SimEX W Wx t fx
abbrev EvAX (W : Wd) (Wx : WX) (X : Cx) (es : List Expr) (f : SA) (fx : XE) (t : TA) : Prop := PA X es t ∧ SimA W t f ∧ SimAX W Wx t fx
abbrev EvIX (W : Wd) (Wx : WX) (X : Cx) (tg e : Expr) (f : SI) (fx : XE) (t : TI) : Prop := PI X tg e t ∧ SimI W t f ∧ SimIX W Wx t fx
abbrev EvSX (W : Wd) (Wx : WX) (X : Cx) (st : Stmt) (f : SS) (fx : XE) (t : TS) : Prop := PS X st t ∧ SimS W t f ∧ SimSX W Wx t fx
abbrev EvBX (W : Wd) (Wx : WX) (X : Cx) (st : List Stmt) (f : SS) (fx : XE) (t : TS) : Prop := PSs X st t ∧ SimS W t f ∧ SimSX W Wx t fx
section
variable {W : Wd} {Wx : WX} {X : Cx} {e a b : Expr} {es : List Expr} {pos p : Pos} {f g : SE} {fx gx : XE} {fs : SA} {s : SB} {x : Str} {ta tb : TE} {tp : TT} {tA : TA} {tS tU : TS} {st : Stmt} {rest : List Stmt} {sf sg : SS}
theorem xe_of (h : EvE W X e f ta) : EvEX W Wx X e f xNo ta := ⟨h.1, h.2, simEX_no⟩
theorem xa_of (h : EvA W X es fs tA) : EvAX W Wx X es fs xNo tA := ⟨h.1, h.2, simAX_no⟩
theorem xs_of (h : EvS W X st sf tS) : EvSX W Wx X st sf xNo tS := ⟨h.1, h.2, simSX_no⟩
theorem xi_of {tg : Expr} {src : SI} {wi : TI} (h : EvI W X tg e src wi) : EvIX W Wx X tg e src xNo wi := ⟨h.1, h.2, simIX_no⟩
theorem xa_cons (h : EvEX W Wx X e f fx ta) (h2 : EvAX W Wx X es fs gx tA) (hs : starEach (e :: es) X.env = (false, eval e X.env) :: starEach es X.env := by rfl) : EvAX W Wx X (e :: es) (sCons f fs) (xCons fx f gx) (tCons ta tA) :=
  ⟨pa_cons h.1 h2.1 hs, sim_cons h.2.1 h2.2.1, simAX_cons h.2.2 h.2.1 h2.2.2⟩
theorem xe_call {k n : Nat} {fa : Addr} {fd : FuncData} {ps : List Str} {o : List D → Option Val} {ox : List D → Option String} (tk : Takes X Wx) (F : FnOk X.prog X.w X.K X.mg X.base (L2.CX X.prog X.w) k fa fd ps (spX (W0 W.K W.cls) n o ox)) (hn : ∀ ds, (o ds).isSome = true → ds.length = n) (hnx : ∀ ds, (ox ds).isSome = true → ds.length = n)
    (hr : Room k X.A) (hg : Gl X x) (hm : X.mg x = some (.ref fa)) (hk : PySem.W.keepIn X.K (.ref fa) = true) (hb : Binds X.K fd ps [])
    (ha : EvAX W Wx X (e :: es) fs fx tA) (hdb : (x == ("__debug__" : Str)) = false := by decide) (he : starEach (e :: es) X.env = (false, eval e X.env) :: starEach es X.env := by rfl) (hpl : (backTo pos (starEach es X.env)).any (·.1) = false := by rfl) :
    EvEX W Wx X (.Call (.Name x p) (e :: es) [] pos) (sApp (opFn o) fs) (xCall ox fs fx) (tCallS (spX (W0 W.K W.cls) n o ox) (WE Wx) tA) :=
  ⟨pe_callS F hr hg hm hk hb (fun σ => passAt tk σ) ha.1 hdb he hpl, simE_callX hn ha.2.1, simEX_call hnx ha.2.1 ha.2.2⟩
/-- such a call where nothing is raised -/
theorem ev_callNX {k n : Nat} {fa : Addr} {fd : FuncData} {ps : List Str} {o : List D → Option Val} {ox : List D → Option String} (F : FnOk X.prog X.w X.K X.mg X.base (L2.CX X.prog X.w) k fa fd ps (spX (W0 W.K W.cls) n o ox)) (hn : ∀ ds, (o ds).isSome = true → ds.length = n)
    (hr : Room k X.A) (hg : Gl X x) (hm : X.mg x = some (.ref fa)) (hk : PySem.W.keepIn X.K (.ref fa) = true) (hb : Binds X.K fd ps [])
    (ha : EvA W X (e :: es) fs tA) (hdb : (x == ("__debug__" : Str)) = false := by decide) (he : starEach (e :: es) X.env = (false, eval e X.env) :: starEach es X.env := by rfl) (hpl : (backTo pos (starEach es X.env)).any (·.1) = false := by rfl) :
    EvE W X (.Call (.Name x p) (e :: es) [] pos) (sApp (opFn o) fs) (tCallS (spX (W0 W.K W.cls) n o ox) (WE fun _ _ _ _ => False) tA) :=
  ⟨pe_callS F hr hg hm hk hb (fun σ => passAt takes0 σ) ha.1 hdb he hpl, simE_callX hn ha.2⟩
theorem xe_tup {kk : Nat} (h : EvAX W Wx X es fs fx tA) : EvEX W Wx X (.Tuple es kk pos) (sApp opTup fs) (xApp fx) (tTup tA) :=
  ⟨pe_tup h.1, sim_app (rr := rTup) h.2.1 vop_tup, simEX_app (rr := rTup) h.2.2⟩
theorem xi_seq {tg : Expr} (h : EvEX W Wx X e f fx ta) (hK : X.K = W.K := by rfl) : EvIX W Wx X tg e (iSq f) fx (iSeq W.K ta) := ⟨hK ▸ pi_seq h.1, sim_isq h.2.1, simIX_sq h.2.2⟩
theorem xs_ret (h : EvEX W Wx X e f fx ta) : EvSX W Wx X (.Return (some e) pos) (sRet f) (xOf fx) (tRet ta) := by
  have q := es_ret (pos := pos) (W := W) ⟨h.1, h.2.1⟩
  exact ⟨q.1, q.2, simSX_ret h.2.2⟩
theorem xs_raise {C : String} {m : Str} {j : Nat} {p2 p3 : Pos} {B newId initId : String} {bmB : List Value} (tk : Takes X Wx) (F : ExcBaseFacts B newId initId bmB) (q : PySem.W.excIn X.K (W.cls C) bmB newId = true) (gC : X.mg x = some (.ref (W.cls C))) (kC : PySem.W.keepIn X.K (.ref (W.cls C)) = true) (r : Raises X (.ref (W.cls C))) (hg : Gl X x)
    (hc : X.calm = true := by rfl) (hdb : (x == ("__debug__" : Str)) = false := by decide) : EvSX W Wx X (.Raise (some (.Call (.Name x p) [.Constant (.str m) j p2] [] p3)) none pos) sNever (xRaise C) (fun _ σ H => Wx (.ref (W.cls C)) none σ H) :=
  ⟨ps_raise hc tk (pmk_own F q gC kC r hg hdb), (fun _ _ _ _ _ _ _ _ _ e _ => nomatch e), simSX_raise⟩
theorem xb_one (h : EvSX W Wx X st sf fx tS) : EvBX W Wx X [st] sf fx tS := ⟨pss_one h.1, h.2.1, h.2.2⟩
theorem xb_cons (h : EvSX W Wx X st sf fx tS) (h2 : EvBX W Wx X rest sg gx tU) : EvBX W Wx X (st :: rest) (sSeq sf sg) (xSeq fx sf gx) (tSeq tS tU) :=
  ⟨pss_cons h.1 h2.1, sim_seq h.2.1 h2.2.1, simSX_seq h.2.2 h.2.1 h2.2.2⟩
theorem xb_nil : EvBX W Wx X [] sSkip xNo tNext := ⟨pss_nil, sim_skip, simSX_no⟩
theorem xs_asg {tg : Expr} {gf : STg} {tg0 : TG} {ws : List Nat} (he : EvEX W Wx X e f fx ta) (hg : EvG W X ws tg gf tg0) (hs : swapsWithSole [tg] e pos.line X.env = pure false := by rfl) (hw : swappedStores [tg] e X.env = pure none := by rfl) (h1 : (assignEach [tg] X.env).map (·.2) = [assign tg X.env] := by rfl) : EvSX W Wx X (.Assign [tg] e pos) (sAsg gf f) (xOf fx) (tAsg ta tg0) :=
  ⟨ps_asg he.1 hg.1 hs hw h1, sim_asg he.2.1 hg.2, simSX_asg he.2.2⟩
theorem xs_set (i : Nat) {pos' : Pos} (hN : X.N.Nodup) (he : EvEX W Wx X e f fx ta) (hi : X.N[i]? = some x := by rfl) (hx : Loc X.env.scope x := by first | exact Or.inl rfl | exact Or.inr rfl) (hs : swapsWith e (some (.Name x pos')) pos.line X.env = pure false := by rfl) (hf : X.fn x = true ∨ X.env.scope.names.lookup x = some .local := by first | exact .inl rfl | exact .inr rfl)
    (hpin : W.pin i = false := by rfl) : EvSX W Wx X (.Assign [.Name x pos'] e pos) (sSet i f) (xOf fx) (tAsg ta (gName i)) :=
  ⟨ps_set hN hi hx he.1 hs hf, sim_set he.2.1 hpin, simSX_asg he.2.2⟩
theorem xs_expr (he : EvEX W Wx X e f fx ta) (hs : swapsWith e none pos.line X.env = pure false := by rfl) : EvSX W Wx X (.Expr e pos) (sDrop f) (xOf fx) (tDrop ta) :=
  ⟨ps_expr he.1 hs, sim_drop he.2.1, simSX_drop he.2.2⟩
theorem xs_if {t : Expr} {p q : List Stmt} (ht : EvT W X t s tp) (ha : EvBX W Wx X p sf fx tS) (hb : EvBX W Wx X q sg gx tU) : EvSX W Wx X (.If t p q pos) (sIf s sf sg) (xIf s fx gx) (tIfS tp tS tU) :=
  ⟨ps_if ht.1 ha.1 hb.1, sim_if ht.2 ha.2.1 hb.2.1, simSX_if ht.2 ha.2.2 hb.2.2⟩
theorem xs_for {tg iter : Expr} {p : List Stmt} {src : SI} {gf : STg} {ws : List Nat} {tw : TI} {tg0 : TG} (hp : PassesOwn (model X.prog X.w) X.A X.env X.xe) (hc : X.calm = true) (hi : EvIX W Wx X tg iter src fx tw) (hg : EvG W X ws tg gf tg0) (hb : EvBX W Wx X p sf gx tS) (hs : ∀ x, foldedSetIterable iter X.env x = pure x := by intro _; rfl) : EvSX W Wx X (.For tg iter p [] pos) (sFor src gf sf) (xFor fx src gf sf gx) (tFor tw tg0 tS) :=
  ⟨ps_for hp hc hi.1 hg.1 hb.1 hs, sim_for hi.2.1 hg.2 hb.2.1, simSX_for hi.2.1 hi.2.2 hg.2 hb.2.1 hb.2.2⟩
end
/-! ### a def -/
def fnSemX (np n : Nat) (bx : XE) : List D → Option String := fun ds =>
  if ds.length = np then (bx (ds.map (fun d => some (par d)) ++ List.replicate (n - ds.length) none)).map (·.1) else none
theorem fnSemX_len {np n : Nat} {bx : XE} {ds : List D} (h : (fnSemX np n bx ds).isSome = true) : ds.length = np := by
  unfold fnSemX at h
  split at h
  · assumption
  · cases h
section
variable {P : Program} {w : World} {K : PySem.W.Frag} {mg : Str → Option Value} {base : Heap} {c : Cl}
theorem ev_fnX {x qual : Str} {st : Stmt} {f : Addr} {fd : FuncData} {N ps : List Str} {k np n : Nat} {b : SS} {bx : XE} {m : List D → Option Val} {mx : List D → Option String} (F : Fun K x qual st f fd) (S : FnScope N ps (defScope st)) (hp : ps.length = np) (hN : N.length = n) (hm : m = fnSem np n b) (hmx : mx = fnSemX np n bx)
    (hb : ∀ (cdv : Value) (A : Around) (outer : List PySem.Env) (s : Shared) (H : Hp) (E : XK), Room k (A.deeper (PyProof.Rows.envOfC qual (defScope st) s.heap.objs.size f cdv)) → ∃ t b' bx', EvBX (W0 K c) (fun cls d _ H => E cls d H) (cxOf (L2.CX P w) P w K mg base N qual (defScope st) f cdv A outer s H E) (defBody st) b' bx' t ∧ b' = b ∧ bx' = bx) :
    FnOk P w K mg base (L2.CX P w) (k + 1) f fd ps (spX (W0 K c) np m mx) := by
  subst hp hN hm hmx
  refine F.okX S spX_len (fun cdv A outer s H vs Q E hr hsp => ?_)
  obtain ⟨t, b', bx', ⟨ht, hs, hx⟩, rfl, rfl⟩ := hb cdv A outer s H E hr
  have hl : ps.length ≤ N.length := by
    have e := congrArg List.length S.pre
    rw [List.length_take] at e
    omega
  refine ⟨t, ht, ?_⟩
  rcases hsp with hsp | ⟨ds, G, c1, hd, gh, rp, e, kx⟩
  · exact body_ok hs hl hsp
  · obtain ⟨S0, nl⟩ := start_sta (N := N) (ds := ds) (by omega) gh rp
    unfold fnSemX at e
    rw [if_pos hd] at e
    cases e1 : bx' (ds.map (fun d => some (par d)) ++ List.replicate (N.length - ds.length) none) with
    | none => rw [e1] at e; cases e
    | some r =>
      obtain ⟨c2, ρ'⟩ := r
      rw [e1] at e
      cases e
      exact hx _ _ H G _ _ _ _ S0 nl e1 fun σ' H' F' As' q => kx H' fun a o e => q.keep a o e (fun _ z => nomatch z) fun z => nomatch z
end
end Tr

/-! TrMeth: insert, pop(k), reverse of an own list of flat things, as statements; a def that changes its second parameter. -/
namespace Tr
open PySem PySem.Spec PyProof.Rows L2 RZ
def flatL : List Val → Bool
  | [] => true
  | r :: rs => r.d.flat && flatL rs
noncomputable def sMeth (h : List D → List D → Option (List D)) (i : Nat) (fs : SA) : SS := fun ρ =>
  if isLst ρ[i]? then
    match fs ρ with
    | some (rs, ρ1) =>
      if allO rs && flatL rs then
        match (restore ρ ρ1)[i]? with
        | some (some ⟨.O, _, .lst xs⟩) =>
          match h xs (ds rs) with
          | some ys => if ok (D.flats xs = true ∧ D.flats ys = true ∧ xs.length < sizeLine) then some (.nx ((restore ρ ρ1).set i (some ⟨.O, false, .lst ys⟩))) else none
          | none => none
        | _ => none
      else none
    | none => none
  else none
section
variable {W : Wd} {ρ ρ' ρ1 ρ2 : Env} {σ σ' σ1 σ2 : L2.St} {H F G H' F' G' H1 F1 G1 H2 F2 : Hp} {As As' As1 As2 : Nat → List Addr} {B : List Addr}
theorem repL_flat : ∀ {rs : List Val} {vs : List V} {B : List Addr}, RepL W H G rs vs B → flatL rs = true → B = [] ∧ ∀ m G', Reps W H G' m (ds rs) vs []
  | [], _, _, .nil, _ => ⟨rfl, fun m _ => .nil m⟩
  | r :: rs, _, _, .cons h t, k => by
    rw [flatL, Bool.and_eq_true] at k
    obtain ⟨e1, q1⟩ := h.flat k.1
    obtain ⟨e2, q2⟩ := repL_flat t k.2
    subst e1 e2
    exact ⟨rfl, fun m G' => .cons (A := []) (B := []) (q1 m G') (q2 m G')⟩
/-- what a method's rule must give -/
def MethOk (W : Wd) (h : List D → List D → Option (List D)) (r : V → List V → Hp → VK → Prop) : Prop :=
  ∀ (H F : Hp) (xs ys ds : List D) (vs ws : List V), Reps W H F .F xs vs [] → Reps W H F .F ds ws [] → h xs ds = some ys → xs.length < sizeLine →
    ∃ us, Reps W H F .F ys us [] ∧ ∀ l H' Q, H' l = some (.lst vs) → (∀ v, Q v (upd H' l (.lst us))) → r (.ref l) ws H' Q
theorem sim_meth {h : List D → List D → Option (List D)} {r : V → List V → Hp → VK → Prop} {i : Nat} {tA : TA} {fs : SA} (hm : MethOk W h r) (hf : SimA W tA fs) : SimS W (tDrop (tBM W.K "list" r (tVar i) tA)) (sMeth h i fs) := by
  intro ρ σ H F As D out S n e k
  unfold sMeth at e
  split at e
  case isFalse => cases e
  rename_i hi
  obtain ⟨m0, lk0, xs0, e0⟩ := isLst_get hi
  obtain ⟨l0, vs0, hv0, hl0⟩ := any_list S e0
  split at e
  case h_2 => cases e
  rename_i rs ρ1 e1
  split at e
  case isFalse => cases e
  rename_i hO
  rw [Bool.and_eq_true] at hO
  split at e
  case h_2 => cases e
  rename_i lk xs e2
  split at e
  case h_2 => cases e
  rename_i ys e3
  split at e
  case isFalse => cases e
  rename_i hx
  cases e
  obtain ⟨fx, fy, hlen⟩ := of_ok hx
  refine ⟨_, hv0, .inl ⟨rfl, _, SqL.of hl0⟩, ?_⟩
  refine hf ρ σ H F F As _ _ _ S e1 fun vs H1 G1 As1 B p rep t org => ?_
  obtain ⟨F2, As2, q, rep2, t2⟩ := settleL_ok S n p rep t org
  rw [if_pos hO.1] at q
  obtain ⟨rfl, rf⟩ := repL_flat rep2 hO.2
  obtain ⟨l, us, A, hv, hl, hA, rx⟩ := own_list q.st e2 (by simp)
  rw [hv0] at hv
  cases hv
  obtain ⟨rfl, rx2⟩ := rx.flat fx
  obtain ⟨us2, ry, kr⟩ := hm H1 F2 xs ys _ us vs (rx2 .F F2) (rf .F F2) e3 hlen
  obtain ⟨As3, q3⟩ := lst_ok q.st q.nl t2 e2 hv0 hl hA (m' := .O) (by simp) ((ry.flat fy).2 .O F2) (fun z => by cases z) List.nodup_nil (fun _ z => nomatch z)
  exact kr l0 H1 _ hl fun v => k _ _ _ _ (q.trans q3 org)
end
/-- xs.insert(i, e) -/
noncomputable def hIns : List D → List D → Option (List D)
  | xs, [.int i, d] => if ok (0 ≤ i ∧ i < 4611686018427387904) then some (xs.take i.toNat ++ [d] ++ xs.drop i.toNat) else none
  | _, _ => none
def hPopAt : List D → List D → Option (List D)
  | xs, [.int i] => if 0 ≤ i ∧ i.toNat < xs.length then some (xs.eraseIdx i.toNat) else none
  | _, _ => none
def hRev : List D → List D → Option (List D)
  | xs, [] => some xs.reverse
  | _, _ => none
def rIns : V → List V → Hp → VK → Prop := fun x vs H Q => ∃ (l : Addr) (xs : List V) (i : Int) (y : V), x = .ref l ∧ vs = [.int i, y] ∧ H l = some (.lst xs) ∧ xs.length < sizeLine ∧ 0 ≤ i ∧ i < 2 ^ 63 ∧ Q .non (upd H l (.lst (xs.take i.toNat ++ [y] ++ xs.drop i.toNat)))
section
variable {W : Wd} {H F : Hp}
theorem reps2F : ∀ {d e : D} {ws : List V} {A : List Addr}, Reps W H F .F [d, e] ws A → ∃ v u, ws = [v, u] ∧ Rep W H F .F d v [] ∧ Rep W H F .F e u []
  | _, _, _, _, .cons (v := v) h (.cons (v := u) h2 (.nil _)) => by
    have e1 := h.Fnil rfl
    have e2 := h2.Fnil rfl
    subst e1 e2
    exact ⟨v, u, rfl, h, h2⟩
theorem reps1F : ∀ {d : D} {ws : List V} {A : List Addr}, Reps W H F .F [d] ws A → ∃ v, ws = [v] ∧ Rep W H F .F d v []
  | _, _, _, .cons (v := v) h (.nil _) => by
    have e1 := h.Fnil rfl
    subst e1
    exact ⟨v, rfl, h⟩
theorem reps_cons1 {m : Mode} {d : D} {v : V} (h : Rep W H F m d v []) : Reps W H F m [d] [v] [] := .cons (A := []) (B := []) h (.nil _)
theorem meth_ins : MethOk W hIns rIns := by
  intro H F xs ys ds vs ws rx rd e hl
  unfold hIns at e
  split at e
  case h_2 => cases e
  rename_i i d
  split at e
  case isFalse => cases e
  rename_i hi
  have hi := of_ok hi
  cases e
  obtain ⟨v, u, rfl, r1, r2⟩ := reps2F rd
  obtain ⟨rfl, -⟩ := rep_int r1
  refine ⟨vs.take i.toNat ++ [u] ++ vs.drop i.toNat, reps_append (A := []) (B := []) (reps_append (A := []) (B := []) (reps_take _ rx) (reps_cons1 r2)) (reps_drop _ rx), fun l H' Q hl' k => ?_⟩
  exact ⟨l, vs, i, u, rfl, rfl, hl', by rw [← rx.len]; exact hl, hi.1, by omega, k _⟩
theorem reps_erase : ∀ {xs : List D} {vs : List V} (k : Nat), Reps W H F .F xs vs [] → Reps W H F .F (xs.eraseIdx k) (vs.eraseIdx k) [] := fun {xs vs} k r => by
  rw [List.eraseIdx_eq_take_drop_succ, List.eraseIdx_eq_take_drop_succ]
  exact reps_append (A := []) (B := []) (reps_take _ r) (reps_drop _ r)
theorem meth_popAt : MethOk W hPopAt rPopAt := by
  intro H F xs ys ds vs ws rx rd e hl
  unfold hPopAt at e
  split at e
  case h_2 => cases e
  rename_i i
  split at e
  case isFalse => cases e
  rename_i hi
  cases e
  obtain ⟨v, rfl, r1⟩ := reps1F rd
  obtain ⟨rfl, -⟩ := rep_int r1
  have lv : i.toNat < vs.length := by rw [← rx.len]; exact hi.2
  refine ⟨vs.eraseIdx i.toNat, reps_erase _ rx, fun l H' Q hl' k => ?_⟩
  refine ⟨l, vs, i, i.toNat, vs[i.toNat], rfl, rfl, hl', by omega, ?_, ?_, List.getElem?_eq_getElem lv, k _⟩
  · have : (16777216 : Nat) ≤ sizeLine := Nat.le_of_ble_eq_true rfl
    have h2 : sizeLine < 2 ^ 62 := Nat.lt_of_lt_of_le (Nat.lt_succ_self _) (Nat.le_of_ble_eq_true rfl : sizeLine + 1 ≤ 2 ^ 62)
    have := hi.2
    omega
  · have e : i = ((i.toNat : Nat) : Int) := by omega
    generalize i.toNat = k at *
    subst e
    unfold seqIndex?
    simp
    omega
theorem meth_rev : MethOk W hRev rReverse := by
  intro H F xs ys ds vs ws rx rd e hl
  unfold hRev at e
  split at e
  case h_2 => cases e
  cases e
  have : ws = [] := by
    have := rd.len
    simpa using this.symm
  subst this
  exact ⟨vs.reverse, reps_revF rx, fun l H' Q hl' k => ⟨l, vs, rfl, rfl, hl', k _⟩⟩
end
section
variable {W : Wd} {X : Cx} {e a b : Expr} {es : List Expr} {pos p apos pos2 : Pos} {x : Str} {fs : SA} {tA : TA}
theorem es_insert (i : Nat) (ha : EvA W X (e :: es) fs tA) (hN : X.N[i]? = some x := by rfl) (hv : Vis X.env.scope x := by first | exact Or.inl rfl | exact Or.inr (Or.inl rfl) | exact Or.inr (Or.inr rfl)) (hd : (x == ("__debug__" : Str)) = false := by decide)
    (hcd : (x == ("__classdict__" : Str)) = false := by decide) (hbase : attributeBase (.Name x p) "insert" X.env (eval (.Name x p) X.env) = eval (.Name x p) X.env := by rfl)
    (hfew : ((backTo pos (starEach (e :: es) X.env)).all (fun x => !x.1) && (backToKw pos (keywordEach [] X.env)).all (fun x => x.1.isSome)
      && decide ((e :: es).length + ([] : List Keyword).length + (if ([] : List Keyword).isEmpty then 0 else 1) < 30)) = true := by rfl)
    (hline : (apos.endLine == pos.line) = true := by rfl) (hs : starEach (e :: es) X.env = (false, eval e X.env) :: starEach es X.env := by rfl) (hplain : (backTo pos (starEach es X.env)).any (·.1) = false := by rfl)
    (hsw : swapsWith (.Call (.Attribute (.Name x p) "insert" apos) (e :: es) [] pos) none pos2.line X.env = pure false := by rfl) (hK : X.K = W.K := by rfl) :
    EvS W X (.Expr (.Call (.Attribute (.Name x p) "insert" apos) (e :: es) [] pos) pos2) (sMeth hIns i fs) (tDrop (tBM W.K "list" rIns (tVar i) tA)) :=
  ⟨ps_expr (hK ▸ pe_bm PySem.F.plainAttrs_list PySem.F.slot_list_insert PySem.F.type_list_insert mt_insert (pe_var hN hv hd hcd) ha.1 hbase hfew hline hs hplain) hsw, sim_meth meth_ins ha.2⟩
theorem es_popAt (i : Nat) (ha : EvA W X (e :: es) fs tA) (hN : X.N[i]? = some x := by rfl) (hv : Vis X.env.scope x := by first | exact Or.inl rfl | exact Or.inr (Or.inl rfl) | exact Or.inr (Or.inr rfl)) (hd : (x == ("__debug__" : Str)) = false := by decide)
    (hcd : (x == ("__classdict__" : Str)) = false := by decide) (hbase : attributeBase (.Name x p) "pop" X.env (eval (.Name x p) X.env) = eval (.Name x p) X.env := by rfl)
    (hfew : ((backTo pos (starEach (e :: es) X.env)).all (fun x => !x.1) && (backToKw pos (keywordEach [] X.env)).all (fun x => x.1.isSome)
      && decide ((e :: es).length + ([] : List Keyword).length + (if ([] : List Keyword).isEmpty then 0 else 1) < 30)) = true := by rfl)
    (hline : (apos.endLine == pos.line) = true := by rfl) (hs : starEach (e :: es) X.env = (false, eval e X.env) :: starEach es X.env := by rfl) (hplain : (backTo pos (starEach es X.env)).any (·.1) = false := by rfl)
    (hsw : swapsWith (.Call (.Attribute (.Name x p) "pop" apos) (e :: es) [] pos) none pos2.line X.env = pure false := by rfl) (hK : X.K = W.K := by rfl) :
    EvS W X (.Expr (.Call (.Attribute (.Name x p) "pop" apos) (e :: es) [] pos) pos2) (sMeth hPopAt i fs) (tDrop (tBM W.K "list" rPopAt (tVar i) tA)) :=
  ⟨ps_expr (hK ▸ pe_bm PySem.F.plainAttrs_list PySem.F.slot_list_pop PySem.F.type_list_pop mt_popAt (pe_var hN hv hd hcd) ha.1 hbase hfew hline hs hplain) hsw, sim_meth meth_popAt ha.2⟩
theorem es_reverse (i : Nat) (hN : X.N[i]? = some x := by rfl) (hv : Vis X.env.scope x := by first | exact Or.inl rfl | exact Or.inr (Or.inl rfl) | exact Or.inr (Or.inr rfl)) (hd : (x == ("__debug__" : Str)) = false := by decide)
    (hcd : (x == ("__classdict__" : Str)) = false := by decide) (hbase : attributeBase (.Name x p) "reverse" X.env (eval (.Name x p) X.env) = eval (.Name x p) X.env := by rfl)
    (hline : (apos.endLine == pos.line) = true := by rfl)
    (hsw : swapsWith (.Call (.Attribute (.Name x p) "reverse" apos) [] [] pos) none pos2.line X.env = pure false := by rfl) (hK : X.K = W.K := by rfl) :
    EvS W X (.Expr (.Call (.Attribute (.Name x p) "reverse" apos) [] [] pos) pos2) (sMeth hRev i sNil) (tDrop (tBM0 W.K "list" rReverse (tVar i))) :=
  ⟨ps_expr (hK ▸ pe_bm0 PySem.F.plainAttrs_list PySem.F.slot_list_reverse PySem.F.type_list_reverse mt_reverse (pe_var hN hv hd hcd) hbase hline) hsw, sim_meth (tA := tNil) meth_rev sim_nil⟩
end
/-! ### a def that changes its second parameter -/
def swapD {α : Type} (g : List D → Option α) : List D → Option α
  | d :: e :: r => g (e :: d :: r)
  | _ => none
def spIO2 (W : Wd) (n : Nat) (g : List D → Option (Val × D)) : Sp := fun vs H Q E =>
  match vs with
  | u :: v0 :: r => spIO W n (swapD g) (v0 :: u :: r) H Q E
  | _ => False
theorem spIO2_len {W : Wd} {n : Nat} {g : List D → Option (Val × D)} : ∀ vs H Q E, spIO2 W n g vs H Q E → vs.length = n := by
  intro vs H Q E h
  unfold spIO2 at h
  split at h
  · have := spIO_len _ _ _ _ h
    simpa using this
  · cases h
noncomputable def startIO2 (n : Nat) : List D → Env
  | e :: d :: ds => some (par e) :: some ⟨.O, false, d⟩ :: (ds.map (fun d => some (par d)) ++ List.replicate (n - (ds.length + 2)) none)
  | _ => []
def own1 (r : Val) (ρ : Env) : Option (Val × D) :=
  match ρ[(1 : Nat)]? with
  | some (some ⟨.O, false, d⟩) => some (r, d)
  | _ => none
theorem own1_eq {r r1 : Val} {d : D} {ρ : Env} (h : own1 r ρ = some (r1, d)) : r1 = r ∧ ρ[(1 : Nat)]? = some (some ⟨.O, false, d⟩) := by
  unfold own1 at h
  split at h
  · rename_i e
    cases h
    exact ⟨rfl, e⟩
  · cases h
noncomputable def fnSemIO2 (np n : Nat) (b : SS) : List D → Option (Val × D) := fun ds =>
  if ds.length = np then
    match b (startIO2 n ds) with
    | some (.rt r ρ) => own1 r ρ
    | some (.nx ρ) => own1 ⟨.O, .non⟩ ρ
    | _ => none
  else none
theorem fnSemIO2_len {np n : Nat} {b : SS} {ds : List D} (h : (fnSemIO2 np n b ds).isSome = true) : ds.length = np := by
  unfold fnSemIO2 at h
  split at h
  · assumption
  · cases h
theorem repsHd {W : Wd} {H G : Hp} {ds : List D} {u : V} {vs : List V} : Reps W H G .F ds (u :: vs) [] → ∃ e es, ds = e :: es ∧ Rep W H G .F e u [] ∧ Reps W H G .F es vs [] := by
  suffices h : ∀ {B : List Addr} {ws : List V}, Reps W H G .F ds ws B → ws = u :: vs → ∃ e es, ds = e :: es ∧ Rep W H G .F e u [] ∧ Reps W H G .F es vs [] from fun r => h r rfl
  intro B ws r e
  cases r with
  | nil => cases e
  | cons ru rp =>
    cases e
    have z1 := ru.Fnil rfl
    have z2 := rp.Fnil rfl
    subst z1 z2
    exact ⟨_, _, rfl, ru, rp⟩
/-- a world whose slot 1 is pinned -/
abbrev W2 (K : PySem.W.Frag) (c : String → Addr) : Wd := ⟨K, c, fun i => i == 1⟩
section
variable {W : Wd} {H G : Hp}
theorem startIO2_sta {N : List Str} {d e : D} {ds : List D} {v0 u : V} {vs : List V} {A : List Addr} (hl : ds.length + 2 ≤ N.length) (gh : Same G H) (r0 : Rep W H G .O d v0 A) (nd : A.Nodup) (ag : ∀ a ∈ A, G a = none) (ru : Rep W H G .F e u []) (rp : Reps W H G .F ds vs []) :
    Sta W (startIO2 N.length (e :: d :: ds)) (L2.start N (u :: v0 :: vs)) H G G (fun i => if i = 1 then A else []) ∧ NoLk (startIO2 N.length (e :: d :: ds)) := by
  have el := rp.len
  have get : ∀ (i : Nat) (s : Slot), (startIO2 N.length (e :: d :: ds))[i]? = some (some s) → (i = 1 ∧ s = ⟨.O, false, d⟩) ∨ (i = 0 ∧ s = par e) ∨ ∃ j x, i = j + 2 ∧ ds[j]? = some x ∧ s = par x := fun i s h => by
    cases i with
    | zero => cases h; exact .inr (.inl ⟨rfl, rfl⟩)
    | succ i =>
      cases i with
      | zero => cases h; exact .inl ⟨rfl, rfl⟩
      | succ j =>
        refine .inr (.inr ⟨j, ?_⟩)
        rw [startIO2, List.getElem?_cons_succ, List.getElem?_cons_succ] at h
        by_cases q : j < ds.length
        · rw [List.getElem?_append_left (by simpa using q), List.getElem?_map] at h
          refine ⟨ds[j], rfl, by simp [q], ?_⟩
          rw [List.getElem?_eq_getElem q] at h
          simp at h
          exact h.symm
        · rw [List.getElem?_append_right (by simpa using q), List.getElem?_replicate] at h
          split at h <;> cases h
  have nl : NoLk (startIO2 N.length (e :: d :: ds)) := fun i s h => by
    rcases get i s h with ⟨_, rfl⟩ | ⟨_, rfl⟩ | ⟨_, _, _, _, rfl⟩ <;> rfl
  have as1 : ∀ i a, a ∈ (fun i => if i = 1 then A else []) i → i = 1 ∧ a ∈ A := fun i a h => by
    by_cases q : i = 1
    · simp only [if_pos q] at h; exact ⟨q, h⟩
    · simp only [if_neg q] at h; cases h
  refine ⟨⟨?_, fun i s h => ?_, fun i s h l => ?_, fun i s h l a ha => ag a (as1 i a ha).2, fun i h => ?_, fun i => ?_, fun i j a h1 h2 => (as1 i a h1).1.trans (as1 j a h2).1.symm, fun i a h => ag a (as1 i a h).2, Same.refl _, gh⟩, nl⟩
  · unfold startIO2 L2.start
    simp only [List.length_append, List.length_map, List.length_replicate, List.length_cons]
    rw [el]
    omega
  · rcases get i s h with ⟨rfl, rfl⟩ | ⟨rfl, rfl⟩ | ⟨j, x, rfl, hx, rfl⟩
    · exact ⟨v0, rfl, r0⟩
    · refine ⟨u, rfl, ?_⟩
      simp only [if_neg (show ¬ (0 : Nat) = 1 by decide)]
      exact rep_par ru
    · obtain ⟨v, hv, r⟩ := reps_get rp rfl hx
      refine ⟨v, ?_, ?_⟩
      · unfold L2.start
        rw [List.map_cons, List.map_cons, List.cons_append, List.cons_append, List.getElem?_cons_succ, List.getElem?_cons_succ]
        have q : j < vs.length := lt_of_get hv
        rw [List.getElem?_append_left (by simpa using q), List.getElem?_map, hv]
        rfl
      · simp only [if_neg (show ¬ j + 2 = 1 by omega)]
        exact rep_par r
  · rw [nl i s h] at l; cases l
  · by_cases q : i = 1
    · subst q
      exact absurd rfl (h ⟨.O, false, d⟩)
    · exact if_neg q
  · by_cases q : i = 1
    · simp only [if_pos q]; exact nd
    · simp only [if_neg q]; exact List.nodup_nil
end
section
variable {K : PySem.W.Frag} {c : String → Addr}
theorem bodyIO2_ok {N : List Str} {t : TS} {b : SS} {vs : List V} {H : Hp} {Q : VK} {E : XK} {n : Nat} (hb : SimS (W2 K c) t b) (hn : n ≤ N.length) (h : spIO2 (W0 K c) n (fnSemIO2 n N.length b) vs H Q E) : t { nx := fun _ H' => Q .non H', rt := Q } (L2.start N vs) H := by
  unfold spIO2 at h
  split at h
  case h_2 => cases h
  rename_i u v0 vr
  obtain ⟨d, ds0, v0', vs', A, G, r, d', hl, ev, gh, r0, nd, ag, rp, e, k⟩ := h
  cases ev
  obtain ⟨e0, ds, rfl, ru, rp⟩ := repsHd rp
  obtain ⟨S, nl⟩ := startIO2_sta (W := W2 K c) (N := N) (by simp at hl; omega) gh r0.pin nd ag ru.pin rp.pin
  have as1 : ∀ i a, a ∈ (fun i => if i = 1 then A else []) i → i = 1 ∧ a ∈ A := fun i a h => by
    by_cases q : i = 1
    · simp only [if_pos q] at h; exact ⟨q, h⟩
    · simp only [if_neg q] at h; cases h
  have to1 : ∀ a, (∃ i, a ∈ (fun i => if i = 1 then A else []) i) → a ∈ A := fun a ⟨i, h⟩ => (as1 i a h).2
  have in1 : ∀ a, a ∉ A → ∀ i, a ∉ (fun i => if i = 1 then A else []) i := fun a h i z => h (as1 i a z).2
  have unl1 : ∀ a, ¬ Unl (startIO2 N.length (e0 :: d :: ds)) (fun i => if i = 1 then A else []) a → a ∉ A := fun a h z => h ⟨1, ⟨.O, false, d⟩, rfl, rfl, z⟩
  have e : fnSemIO2 n N.length b (e0 :: d :: ds) = some (r, d') := e
  unfold fnSemIO2 at e
  rw [if_pos (by simpa using hl)] at e
  split at e
  · rename_i r1 ρ1 e1
    obtain ⟨rfl, e2⟩ := own1_eq e
    refine hb _ _ H G _ _ _ S nl e1 ?_
    intro v σ' H' F' G' As' B q
    obtain ⟨x, hx, rx⟩ := q.st.slot 1 _ e2
    have eu : x = v0 := by
      rw [q.pn 1 rfl] at hx
      cases hx
      rfl
    subst eu
    refine k v H' G' (As' 1) B ⟨fun a o e n => q.keep a o e (in1 a n), q.dom, q.fg, q.st.gh, fun a e n => (q.gn a e n).imp_right (to1 a), S.tup fun a o e n => q.keep a o e (in1 a (unl1 a n)), q.rep.pin, q.tmp.nd, q.tmp.g, fun b hb => (q.org b hb).imp_right (to1 b), (rx.anyG rfl).pin, q.st.nd 1, fun a ha => q.st.free 1 _ e2 rfl a ha, fun a ha => (q.an 1 a ha).imp_right (to1 a), fun b hb => q.tmp.a b hb 1⟩
  · rename_i ρ1 e1
    obtain ⟨rfl, e2⟩ := own1_eq e
    refine hb _ _ H G _ _ _ S nl e1 ?_
    intro σ' H' F' As' q
    obtain ⟨x, hx, rx⟩ := q.st.slot 1 _ e2
    have eu : x = v0 := by
      rw [q.pn 1 rfl] at hx
      cases hx
      rfl
    subst eu
    have or3 : ∀ a, (H a = none ∨ (∃ j, a ∈ (fun i => if i = 1 then A else []) j) ∨ a ∈ ([] : List Addr)) → H a = none ∨ a ∈ A := fun a h => by
      rcases h with h | h | h
      · exact .inl h
      · exact .inr (to1 a h)
      · cases h
    refine k .non H' F' (As' 1) [] ⟨fun a o e n => q.keep a o e (in1 a n) (fun z => nomatch z), q.dom, q.ff, q.st.gh, fun a e n => or3 a (q.fn a e n), q.tp, .non _, List.nodup_nil, fun _ z => (nomatch z), fun _ z => (nomatch z), (rx.anyG rfl).pin, q.st.nd 1, fun a ha => q.st.free 1 _ e2 rfl a ha, fun a ha => or3 a (q.an 1 a ha), fun _ z => (nomatch z)⟩
  · cases e
end
/-- the list is at hand as the second argument, the first one is a text -/
noncomputable def sCallT2 (o : List D → Option (Val × D)) (fu f : SE) (fs : SA) : SE := fun ρ =>
  match fu ρ with
  | some (⟨_, .str z⟩, ρ0) => sCallT (swapD o) f (sCons (sCon (.str z)) fs) ρ0
  | _ => none
theorem sim_callT2 {W : Wd} {n : Nat} {o : List D → Option (Val × D)} {fu f : SE} {fs : SA} {tu te : TE} {ta : TA} {E : XK} (hn : ∀ ds, (o ds).isSome = true → ds.length = n) (hu : SimE W tu fu) (hf : SimE W te f) (ha : SimA W ta fs) :
    SimE W (tCB (fun vs H Q => spIO2 (W0 W.K W.cls) n o (vs ++ []) H Q E) (tCons tu (tCons te ta))) (sCallT2 o fu f fs) := by
  have hn' : ∀ ds, (swapD o ds).isSome = true → ds.length = n := fun ds h => by
    unfold swapD at h
    split at h
    · have := hn _ h; simpa using this
    · cases h
  intro ρ σ H F G As r ρ' Q S e k
  unfold sCallT2 at e
  split at e
  case h_2 => cases e
  rename_i m z ρ0 e0
  refine hu ρ σ H F G As _ _ _ S e0 fun v H1 G1 As1 B p rep t org => ?_
  obtain ⟨rfl, rfl⟩ := rep_str rep
  have q := sim_callT (E := E) hn' hf (sim_cons (sim_con (v := .str z) (d := .str z) fun _ _ => .str _ _) ha) ρ0 σ H1 F G1 As1 r ρ' Q p.st e fun v H' G' As' B p2 rp t2 o2 => k v H' G' As' B (p.trans S p2) rp t2 fun b hb => by
    rcases o2 b hb with y | ⟨j, y⟩
    · exact .inl (p.dom b y)
    · exact (p.an j b y).symm
  exact q
section
variable {W : Wd} {X : Cx} {e0 e : Expr} {es : List Expr} {pos p : Pos} {fu f : SE} {fs : SA} {x : Str} {tu te : TE} {tA : TA}
theorem ev_callT2 {k n : Nat} {fa : Addr} {fd : FuncData} {ps : List Str} {o : List D → Option (Val × D)} (F : FnOk X.prog X.w X.K X.mg X.base CX0 k fa fd ps (spIO2 (W0 W.K W.cls) n o)) (hn : ∀ ds, (o ds).isSome = true → ds.length = n) (hr : Room k X.A) (hg : Gl X x) (hm : X.mg x = some (.ref fa)) (hk : PySem.W.keepIn X.K (.ref fa) = true) (hb : Binds X.K fd ps [])
    (h0 : EvE W X e0 fu tu) (h1 : EvE W X e f te) (ha : EvA W X es fs tA) (hdb : (x == ("__debug__" : Str)) = false := by decide) (he0 : starEach (e0 :: e :: es) X.env = (false, eval e0 X.env) :: starEach (e :: es) X.env := by rfl) (he : starEach (e :: es) X.env = (false, eval e X.env) :: starEach es X.env := by rfl) (hpl : (backTo pos (starEach (e :: es) X.env)).any (·.1) = false := by rfl) :
    EvE W X (.Call (.Name x p) (e0 :: e :: es) [] pos) (sCallT2 o fu f fs) (tCall (spIO2 (W0 W.K W.cls) n o) [] E0 (tCons tu (tCons te tA))) :=
  ⟨pe_call F hr hg hm hk hb .nil pass0 (pa_cons h0.1 (pa_cons h1.1 ha.1 he) he0) hdb he0 hpl, sim_callT2 hn h0.2 h1.2 ha.2⟩
end
section
variable {P : Program} {w : World} {K : PySem.W.Frag} {mg : Str → Option Value} {base : Heap} {c : Cl}
theorem ev_fnIO2 {x qual : Str} {st : Stmt} {f : Addr} {fd : FuncData} {N ps : List Str} {k np n : Nat} {b : SS} {m : List D → Option (Val × D)} (F : Fun K x qual st f fd) (S : FnScope N ps (defScope st)) (hp : ps.length = np) (hN : N.length = n) (hm : m = fnSemIO2 np n b)
    (hb : ∀ (cdv : Value) (A : Around) (outer : List PySem.Env) (s : Shared) (H : Hp) (E : XK), Room k (A.deeper (PyProof.Rows.envOfC qual (defScope st) s.heap.objs.size f cdv)) → ∃ t b', EvB (W2 K c) (cxOf CX0 P w K mg base N qual (defScope st) f cdv A outer s H E).nox (defBody st) b' t ∧ b' = b) :
    FnOk P w K mg base CX0 (k + 1) f fd ps (spIO2 (W0 K c) np m) := by
  subst hp hN hm
  refine F.ok S spIO2_len (fun cdv A outer s H vs Q E hr hsp => ?_)
  obtain ⟨t, b', ⟨ht, hs⟩, rfl⟩ := hb cdv A outer s H E hr
  have hl : ps.length ≤ N.length := by
    have e := congrArg List.length S.pre
    rw [List.length_take] at e
    omega
  exact ⟨t, ht, bodyIO2_ok hs hl hsp⟩
end
/-! ### a text times a number -/
noncomputable def repS (i : Str) (n : Nat) : Str := ⟨(List.replicate n i.cps).foldl (· ++ ·) #[]⟩
theorem foldl_app {α : Type} (a : Array α) : ∀ (n : Nat) (b : Array α), (List.replicate n a).foldl (· ++ ·) b = (b.toList ++ (List.replicate n a.toList).flatten).toArray
  | 0, b => by simp
  | n + 1, b => by
    rw [List.replicate_succ, List.foldl_cons, foldl_app a n (b ++ a), List.replicate_succ, List.flatten_cons, Array.toList_append, List.append_assoc]
theorem repS_len (i : Str) (n : Nat) : (repS i n).length = i.length * n := by
  unfold repS Str.length
  rw [foldl_app]
  simp [Nat.mul_comm]
noncomputable def rMulS : R2 := fun x y H Q => ∃ i k, x = .str i ∧ y = .int k ∧ 1 < k ∧ k < 2 ^ 31 ∧ 0 < i.length ∧ i.length * k.toNat ≤ 65536 ∧ Q (.str (repS i k.toNat)) H
noncomputable def opMulS : List Val → Option Val
  | [⟨_, .str a⟩, ⟨_, .int k⟩] => if ok (1 < k ∧ k < 2 ^ 31 ∧ 0 < a.length ∧ a.length * k.toNat ≤ 65536) then some ⟨.O, .str (repS a k.toNat)⟩ else none
  | _ => none
theorem op_mulS {X : Cx} : OpR X (binaryOp .Mult) rMulS := by
  intro pins s σ H x y v u Q I rx ry h
  obtain ⟨i, k, rfl, rfl, h1, h2, h3, h4, q⟩ := h
  obtain ⟨t, rfl⟩ := rx
  obtain ⟨t', rfl⟩ := ry
  have hk : i.length * k.toNat ≤ sizeLine := Nat.le_trans h4 (by decide)
  have hn : Builtin.Str.tooLong (i.length * k.toNat) = false := by
    unfold Builtin.Str.tooLong
    exact decide_eq_false (by omega)
  refine P.mul_str ?_ (fun _ _ => ?_) (fun _ _ => hn) ?_
  · have a1 : ¬ k < -(2 ^ 63 : Int) := by omega
    have a2 : ¬ k ≥ 2 ^ 63 := by omega
    rw [decide_eq_false a1, decide_eq_false a2]; rfl
  · have a1 : (i.length : Int) ≤ 65536 := by
      have : i.length * 1 ≤ i.length * k.toNat := Nat.mul_le_mul_left _ (by omega)
      omega
    have a2 : (65536 : Int) ≤ (2 ^ 63 - 1) / k := by
      refine (Int.le_ediv_iff_mul_le (by omega)).2 ?_
      omega
    omega
  · rw [if_neg (by omega), if_neg (by simp; omega)]
    exact ⟨show (repS i k.toNat).length ≤ sizeLine by rw [repS_len]; exact hk, ⟨.str (repS i k.toNat), H, I.tok _, ⟨_, rfl⟩, q⟩⟩
theorem vop_mulS {W : Wd} : VOp W (rr2 rMulS) opMulS := by
  intro H G rs vs A r Q gh rep nd ga e k
  unfold opMulS at e
  split at e
  · split at e
    · rename_i hl
      cases e
      obtain ⟨v, u, A1, A2, rfl, rfl, h1, h2⟩ := repL2 rep
      obtain ⟨rfl, rfl⟩ := rep_str h1
      obtain ⟨rfl, rfl⟩ := rep_int h2
      obtain ⟨a, b, c, d⟩ := of_ok hl
      exact ⟨_, _, rfl, rfl, a, b, c, d, k _ H G [] (vpost_same gh (.str _ _))⟩
    · cases e
  · cases e
theorem ev_mulS {W : Wd} {X : Cx} {a b : Expr} {pos : Pos} {f g : SE} {ta tb : TE} (ha : EvE W X a f ta) (hb : EvE W X b g tb) : EvE W X (.BinOp a .Mult b pos) (sApp2 opMulS f g) (tOp rMulS ta tb) := ev_op op_mulS vop_mulS ha hb
end Tr

/-! TrTry: try .. except X as e; isinstance of what was caught. -/
namespace Tr
open PySem PySem.Spec PyProof.Rows L2 RZ
mutual
/-- nothing caught within -/
def D.noX : D → Bool
  | .exc _ => false
  | .cl n => n != "!"
  | .ins c fs => c != "!" && D.noXf fs
  | .lst xs => D.noXs xs
  | .tup xs => D.noXs xs
  | _ => true
def D.noXs : List D → Bool
  | [] => true
  | x :: xs => D.noX x && D.noXs xs
def D.noXf : List (Str × D) → Bool
  | [] => true
  | (_, x) :: xs => D.noX x && D.noXf xs
end
section
variable {K : PySem.W.Frag} {cl cl' : String → Addr} {p : Nat → Bool} {H G F : Hp}
mutual
theorem Rep.cls (hc : ∀ n, n ≠ "!" → cl' n = cl n) : ∀ {m : Mode} {d : D} {v : V} {A : List Addr}, Rep ⟨K, cl, p⟩ H G m d v A → d.noX = true → Rep ⟨K, cl', p⟩ H G m d v A
  | _, _, _, _, .non m, _ => .non m
  | _, _, _, _, .bl m b, _ => .bl m b
  | _, _, _, _, .int m b, _ => .int m b
  | _, _, _, _, .str m b, _ => .str m b
  | _, _, _, _, .ty m b, _ => .ty m b
  | _, _, _, _, .cl m b, h => by
    have q := hc b (by simpa [D.noX] using h)
    have := Rep.cl (W := ⟨K, cl', p⟩) (H := H) (G := G) m b
    simp only [q] at this
    exact this
  | _, _, _, _, .exc m b, h => by simp [D.noX] at h
  | _, _, _, _, .tup h r, k => .tup h (Reps.cls hc r (by simpa [D.noX] using k))
  | _, _, _, _, .lstF h r, k => .lstF h (Reps.cls hc r (by simpa [D.noX] using k))
  | _, _, _, _, .lstS h r, k => .lstS h (Reps.cls hc r (by simpa [D.noX] using k))
  | _, _, _, _, .lstO h r, k => .lstO h (Reps.cls hc r (by simpa [D.noX] using k))
  | _, _, _, _, .scr h, _ => .scr h
  | _, _, _, _, .insF (c := c) h r, k => by
    simp only [D.noX, Bool.and_eq_true] at k
    have q := hc c (by simpa using k.1)
    exact .insF (by simp only [q]; exact h) (Repf.cls hc r k.2)
  | _, _, _, _, .insS (c := c) h r, k => by
    simp only [D.noX, Bool.and_eq_true] at k
    have q := hc c (by simpa using k.1)
    exact .insS (by simp only [q]; exact h) (Repf.cls hc r k.2)
  | _, _, _, _, .insO (c := c) h r, k => by
    simp only [D.noX, Bool.and_eq_true] at k
    have q := hc c (by simpa using k.1)
    exact .insO (by simp only [q]; exact h) (Repf.cls hc r k.2)
theorem Reps.cls (hc : ∀ n, n ≠ "!" → cl' n = cl n) : ∀ {m : Mode} {d : List D} {v : List V} {A : List Addr}, Reps ⟨K, cl, p⟩ H G m d v A → D.noXs d = true → Reps ⟨K, cl', p⟩ H G m d v A
  | _, _, _, _, .nil m, _ => .nil m
  | _, _, _, _, .cons h r, k => by
    simp only [D.noXs, Bool.and_eq_true] at k
    exact .cons (Rep.cls hc h k.1) (Reps.cls hc r k.2)
theorem Repf.cls (hc : ∀ n, n ≠ "!" → cl' n = cl n) : ∀ {m : Mode} {d : List (Str × D)} {v : List (Str × V)} {A : List Addr}, Repf ⟨K, cl, p⟩ H G m d v A → D.noXf d = true → Repf ⟨K, cl', p⟩ H G m d v A
  | _, _, _, _, .nil m, _ => .nil m
  | _, _, _, _, .cons h r, k => by
    simp only [D.noXf, Bool.and_eq_true] at k
    exact .cons (Rep.cls hc h k.1) (Repf.cls hc r k.2)
end
end
def slotNoX : Option Slot → Bool
  | some s => s.d.noX
  | none => true
def envNoX (ρ : Env) : Bool := ρ.all slotNoX
theorem envNoX_get {ρ : Env} (h : envNoX ρ = true) {i : Nat} {s : Slot} (e : ρ[i]? = some (some s)) : s.d.noX = true := List.all_eq_true.mp h (some s) (List.mem_of_getElem? e)
/-- the world of a suite: what was caught stands at a -/
abbrev WX1 (W : Wd) (a : Addr) : Wd := ⟨W.K, fun n => if n = "!" then a else W.cls n, W.pin⟩
theorem wx_cls {W : Wd} {a : Addr} : ∀ n, n ≠ "!" → (WX1 W a).cls n = W.cls n := fun n h => if_neg h
def isNone : Option (Option Slot) → Bool
  | some none => true
  | _ => false
def isExc : Option (Option Slot) → Bool
  | some (some ⟨_, _, .exc _⟩) => true
  | _ => false
noncomputable def sTry (b : SS) (bx : XE) (i : Nat) (cs : String → Bool) (su : String → SS) : SS := fun ρ =>
  match b ρ with
  | some o => some o
  | none =>
    match bx ρ with
    | some (c, ρ1) =>
      if cs c = true ∧ envNoX ρ1 = true ∧ isNone ρ1[i]? = true then
        match su c (ρ1.set i (some ⟨.O, false, .exc c⟩)) with
        | some (.nx ρ2) => if envNoX (ρ2.set i none) = true ∧ isExc ρ2[i]? = true then some (.nx (ρ2.set i none)) else none
        | some (.rt r ρ2) => if envNoX (ρ2.set i none) = true ∧ isExc ρ2[i]? = true ∧ r.d.noX = true then some (.rt r (ρ2.set i none)) else none
        | _ => none
      else none
    | none => none
section
variable {W : Wd} {ρ ρ' ρ1 ρ2 : Env} {σ σ' σ1 σ2 : L2.St} {H F G H' F' G' H1 F1 G1 H2 F2 G2 : Hp} {As As' As1 As2 : Nat → List Addr} {B : List Addr}
open Classical in
noncomputable def tSuite (W : Wd) (cs : String → Bool) (ts : Addr → Addr → TS) : Addr → Value → Option Addr → TS := fun a cls d =>
  match cls, d with
  | .ref D0, none => if ∃ c, cs c = true ∧ W.cls c = D0 then ts a D0 else fun _ _ _ => False
  | _, _ => fun _ _ _ => False
/-- into the suite -/
theorem sta_enter {i : Nat} {a : Addr} {c : String} (S : Sta W ρ σ H F F As) (hn : envNoX ρ = true) (hi : ρ[i]? = some none) : Sta (WX1 W a) (ρ.set i (some ⟨.O, false, .exc c⟩)) (σ.set i (some (.ref a))) H F F As := by
  obtain ⟨K, cl, pn⟩ := W
  have li : i < ρ.length := lt_of_get hi
  have ai : As i = [] := S.none i fun s z => by rw [hi] at z; cases z
  have get : ∀ (j : Nat) (s : Slot), (ρ.set i (some ⟨.O, false, .exc c⟩))[j]? = some (some s) → (j = i ∧ s = ⟨.O, false, .exc c⟩) ∨ (j ≠ i ∧ ρ[j]? = some (some s)) := fun j s h => by
    rw [get_set] at h
    split at h
    · rename_i q
      cases h
      exact .inl ⟨q.1, rfl⟩
    · rename_i q
      by_cases z : j = i
      · exact absurd ⟨z, li⟩ q
      · exact .inr ⟨z, h⟩
  refine ⟨by rw [List.length_set, List.length_set]; exact S.len, fun j s h => ?_, fun j s h l x hx => ?_, fun j s h l x hx => ?_, fun j h => ?_, S.nd, S.dj, S.fo, S.fg, S.gh⟩
  · rcases get j s h with ⟨rfl, rfl⟩ | ⟨z, e⟩
    · refine ⟨.ref a, by rw [List.getElem?_set_self (by rw [← S.len]; exact li)], ?_⟩
      rw [ai]
      have := Rep.exc (W := WX1 ⟨K, cl, pn⟩ a) (H := H) (G := F) .O c
      simpa using this
    · obtain ⟨v, hv, r⟩ := S.slot j s e
      exact ⟨v, by rw [List.getElem?_set_ne (Ne.symm z)]; exact hv, r.cls (fun n h => wx_cls (W := ⟨K, cl, pn⟩) n h) (envNoX_get hn e)⟩
  · rcases get j s h with ⟨rfl, rfl⟩ | ⟨z, e⟩
    · rw [ai] at hx; cases hx
    · exact S.lock j s e l x hx
  · rcases get j s h with ⟨rfl, rfl⟩ | ⟨z, e⟩
    · rw [ai] at hx; cases hx
    · exact S.free j s e l x hx
  · by_cases z : j = i
    · rw [z]; exact ai
    · exact S.none j fun s y => h s (by rw [List.getElem?_set_ne (Ne.symm z)]; exact y)
/-- out of the suite -/
theorem sta_exit {i : Nat} {a : Addr} (S : Sta (WX1 W a) ρ σ H F G As) (hn : envNoX (ρ.set i none) = true) (hi : isExc ρ[i]? = true) : Sta W (ρ.set i none) (σ.set i none) H F G As := by
  obtain ⟨K, cl, pn⟩ := W
  have he : ∃ s : Slot, ρ[i]? = some (some s) ∧ ∃ c, s.d = .exc c := by
    unfold isExc at hi
    split at hi
    · rename_i e; exact ⟨_, e, _, rfl⟩
    · cases hi
  obtain ⟨s0, e0, c, ec⟩ := he
  have li : i < ρ.length := lt_of_get e0
  have ai : As i = [] := by
    obtain ⟨v, _, r⟩ := S.slot i s0 e0
    rw [ec] at r
    exact (r.flat rfl).1
  have get : ∀ (j : Nat) (s : Slot), (ρ.set i none)[j]? = some (some s) → j ≠ i ∧ ρ[j]? = some (some s) := fun j s h => by
    rw [get_set] at h
    split at h
    · cases h
    · rename_i q
      by_cases z : j = i
      · exact absurd ⟨z, li⟩ q
      · exact ⟨z, h⟩
  refine ⟨by rw [List.length_set, List.length_set]; exact S.len, fun j s h => ?_, fun j s h l x hx => ?_, fun j s h l x hx => ?_, fun j h => ?_, S.nd, S.dj, S.fo, S.fg, S.gh⟩
  · obtain ⟨z, e⟩ := get j s h
    obtain ⟨v, hv, r⟩ := S.slot j s e
    exact ⟨v, by rw [List.getElem?_set_ne (Ne.symm z)]; exact hv, r.cls (fun n h => (wx_cls (W := ⟨K, cl, pn⟩) n h).symm) (envNoX_get hn h)⟩
  · obtain ⟨z, e⟩ := get j s h
    exact S.lock j s e l x hx
  · obtain ⟨z, e⟩ := get j s h
    exact S.free j s e l x hx
  · by_cases z : j = i
    · rw [z]; exact ai
    · exact S.none j fun s y => h s (by rw [List.getElem?_set_ne (Ne.symm z)]; exact y)
theorem sim_try {i : Nat} {cs : String → Bool} {su : String → SS} {tb : WX → TS} {ts : Addr → Addr → TS} {b : SS} {bx : XE} {c0 : Value} {Wout : WX} (hpin : W.pin i = false)
    (hb : ∀ Wx, SimS W (tb Wx) b ∧ SimSX W Wx (tb Wx) bx) (hexm : ∀ c, cs c = true → PySem.W.exmOne W.K (.ref (W.cls c)) c0 = some true)
    (hs : ∀ a c D0, cs c = true → W.cls c = D0 → SimS (WX1 W a) (ts a D0) (su c)) :
    SimS W (fun D σ H => tb (wAs W.K c0 i (tSuite W cs ts) Wout D) D σ H) (sTry b bx i cs su) := by
  intro ρ σ H F As D out S n e k
  unfold sTry at e
  split at e
  · rename_i o e1
    cases e
    exact (hb _).1 ρ σ H F As D _ S n e1 k
  · split at e
    case h_2 => cases e
    rename_i c ρ1 e1
    split at e
    case isFalse => cases e
    rename_i hc
    obtain ⟨hcs, hno, hin⟩ := hc
    have hin : ρ1[i]? = some none := by
      unfold isNone at hin
      split at hin
      · assumption
      · cases hin
    refine (hb _).2 ρ σ H F As D c ρ1 S n e1 fun σ1 H1 F1 As1 q => ?_
    refine ⟨true, hexm c hcs, fun _ a na => ?_, fun z => nomatch z⟩
    have hts : tSuite W cs ts a (.ref (W.cls c)) none = ts a (W.cls c) := by
      unfold tSuite
      exact if_pos ⟨c, hcs, rfl⟩
    rw [hts]
    have S1 := sta_enter (a := a) (c := c) q.st hno hin
    have n1 : NoLk (ρ1.set i (some ⟨.O, false, .exc c⟩)) := fun j s h => by
      rw [get_set] at h
      split at h
      · cases h; rfl
      · exact q.nl j s h
    have ls : (σ1.set i (some (V.ref a))).length = σ1.length := List.length_set
    have pnj : ∀ j, W.pin j = true → ∀ x : Option V, (σ1.set i x)[j]? = σ1[j]? := fun j hj x => List.getElem?_set_ne fun z => by rw [← z, hpin] at hj; cases hj
    split at e
    · rename_i ρ2 e2
      split at e
      case isFalse => cases e
      rename_i hx
      cases e
      refine hs a c _ hcs rfl _ _ H1 F1 As1 _ _ S1 n1 e2 ?_
      intro σ2 H2 F2 As2 r
      refine k (σ2.set i none) H2 F2 As2 (q.trans (B := []) (σ2 := σ2.set i none) ⟨sta_exit r.st hx.1 hx.2, fun j s h => ?_, r.keep, r.dom, r.ff, r.fn, r.an, r.tp, ?_, fun j hj => ?_⟩ fun _ z => nomatch z)
      · rw [get_set] at h
        split at h
        · cases h
        · exact r.nl j s h
      · rw [List.length_set, r.ln, ls]
      · have e4 : (σ2.set i (none : Option V))[j]? = σ2[j]? := List.getElem?_set_ne fun z => by rw [← z, hpin] at hj; cases hj
        rw [e4, r.pn j hj, pnj j hj]
    · rename_i rv ρ2 e2
      split at e
      case isFalse => cases e
      rename_i hx
      cases e
      refine hs a c _ hcs rfl _ _ H1 F1 As1 _ _ S1 n1 e2 ?_
      intro v σ2 H2 F2 G2 As2 B r
      refine k v (σ2.set i none) H2 F2 G2 As2 B (q.ret ⟨sta_exit r.st hx.1 hx.2.1, r.keep, r.dom, r.fg, r.gn, r.an, ?_, ⟨r.tmp.nd, r.tmp.g, r.tmp.h, r.tmp.a⟩, r.org, fun j hj => ?_⟩)
      · have rr := r.rep
        obtain ⟨K, cl, pn⟩ := W
        exact rr.cls (fun n h => (wx_cls (W := ⟨K, cl, pn⟩) n h).symm) hx.2.2
      · have e4 : (σ2.set i (none : Option V))[j]? = σ2[j]? := List.getElem?_set_ne fun z => by rw [← z, hpin] at hj; cases hj
        rw [e4, r.pn j hj, pnj j hj]
    · cases e
end
/-! ### in the text -/
theorem es_tryAs {W : Wd} {X : Cx} {x n : Str} {c0 : Value} {body suite : List Stmt} {b₀ : Stmt} {np pos pos' : Pos} {tb : WX → TS} {ts : Addr → Addr → TS} {Wout : WX} {b : SS} {bx : XE} {cs : String → Bool} {su : String → SS} (i : Nat)
    (hs : X.stack = X.env :: X.outer) (hf : X.env.frame = some X.env.locals) (hN : X.N.Nodup) (hc : Names X x c0) (tk : Takes X Wout)
    (hexm : ∀ c, cs c = true → PySem.W.exmOne W.K (.ref (W.cls c)) c0 = some true)
    (hb : ∀ (Wx : WX) (pn : List (Addr × Obj)) (xe : Value → Shared → Prop), Takes (X.tr pn xe) Wx → EvBX W Wx (X.tr pn xe) body b bx (tb Wx))
    (hsu : ∀ (a : Addr) (oe : Obj) (c : String) (D0 : Addr) (pn : List (Addr × Obj)), cs c = true → W.cls c = D0 → Zc (.ref D0) none oe → (∃ vs, oe.data = .fields vs) → EvB (WX1 W a) (X.suite a ((a, oe) :: pn)) (b₀ :: suite) (su c) (ts a D0))
    (hi : X.N[i]? = some n := by rfl) (hln : X.env.kindOf n = some .local := by rfl) (hpin : W.pin i = false := by rfl) (hK : X.K = W.K := by rfl) :
    EvS W X (.Try body [.ExceptHandler (some (.Name x np)) (some n) (b₀ :: suite) pos'] [] [] pos) (sTry b bx i cs su) (fun D σ H => tb (wAs W.K c0 i (tSuite W cs ts) Wout D) D σ H) := by
  refine ⟨hK ▸ ps_try_as hs hf hN hi hln hc tk (fun Wx pn xe tk _ => (hb Wx pn xe tk).1) (fun a oe cls d pn hz hv => ?_), ?_⟩
  · unfold tSuite
    cases cls with
    | ref D0 =>
      cases d with
      | none =>
        simp only
        split
        · rename_i h
          obtain ⟨c, h1, h2⟩ := h
          exact (hsu a oe c D0 pn h1 h2 hz hv).1
        · exact ⟨fun _ _ _ _ _ _ z => z.elim⟩
      | some _ => exact ⟨fun _ _ _ _ _ _ z => z.elim⟩
    | _ => exact ⟨fun _ _ _ _ _ _ z => z.elim⟩
  · refine sim_try hpin (fun Wx => ?_) hexm fun a c D0 h1 h2 => ?_
    · exact (hb Wx [] (fun _ _ => True) fun _ _ _ => trivial).2
    · exact (hsu a { cls := .ref D0, dict := none, data := .fields #[] } c D0 [] h1 h2 ⟨rfl, rfl⟩ ⟨_, rfl⟩).2
/-! isinstance of what was caught -/
def valOf : V → Option Value
  | .ref a => some (.ref a)
  | .ty n => some (.type n)
  | _ => none
def valsOf : List V → Option (List Value)
  | [] => some []
  | v :: r => match valOf v, valsOf r with
    | some u, some us => some (u :: us)
    | _, _ => none
theorem valOf_rel {v : V} {u w : Value} (h : valOf v = some u) (r : RelV v w) : w = u := by
  cases v <;> first | (cases h; cases r; rfl) | (cases h)
theorem valsOf_rel : ∀ {vs : List V} {us ws : List Value}, valsOf vs = some us → Vals vs ws → ws = us
  | [], _, _, h, .nil => by cases h; rfl
  | v :: vs, us, _, h, .cons r t => by
    unfold valsOf at h
    split at h
    · rename_i u us' e1 e2
      cases h
      rw [valOf_rel e1 r, valsOf_rel e2 t]
    · cases h
def rIsX (K : PySem.W.Frag) (D a : Addr) : RV := fun xs H Q => rIsE K D a xs H Q ∨
  ∃ (tp : Addr) (vs : List V) (us : List Value) (b : Bool), xs = [.ref a, .ref tp] ∧ SqT K H tp vs ∧ valsOf vs = some us ∧ PySem.W.kitAny K (.ref D) us = some b ∧ Q (.bl b) H
theorem call_isX {X : Cx} {a D : Addr} {oe : Obj} {pn : List (Addr × Obj)} (C : ExcC X.K D) (hz : Zc (.ref D) none oe) (hf : ∃ vs, oe.data = .fields vs) : CallR (X.suite a ((a, oe) :: pn)) (.builtin "isinstance") (rIsX X.K D a) := by
  intro pins s σ H xs us Q I r h
  rcases h with h | ⟨tp, vs, ws, b, rfl, hq, hv, e, q⟩
  · exact call_isE C hz hf pins s σ H xs us Q I r h
  · obtain ⟨u1, u2, rfl, r1, r2⟩ := vals2 r
    cases r1
    cases r2
    obtain ⟨hget, _⟩ := I.pin (a, oe) (List.mem_append.mpr (.inl List.mem_cons_self))
    obtain ⟨fv, hd⟩ := hf
    have J : PySem.W.InstAt s.heap a oe D none := by
      obtain ⟨oc, od, oda, osl⟩ := oe
      obtain ⟨h1, h2⟩ := hz
      dsimp only at h1 h2 hd
      subst h1 h2 hd
      exact ⟨hget, rfl, rfl, trivial⟩
    obtain ⟨its, rv, ⟨o, ho, hc, n, hdt⟩, _⟩ := I.tuple hq
    have e3 := valsOf_rel hv rv
    subst e3
    obtain ⟨oc, od, dt, sl⟩ := o
    dsimp only at hc hdt
    subst hc hdt
    exact PySem.W.kia_tup (PySem.W.handS_kitx_exc C.hg C.hk C.hs C.hd C.ha C.hn C.ht C.hm) I.kIn J ho e (fun z => nomatch z) fun tk => ⟨.bl b, H, I.kept (t' := tk) fun _ _ z => z, rfl, q⟩
/-- tables: of which own class, of which built-in one a class is under -/
abbrev SubT := List (String × String × Bool)
def subT (tab : SubT) (c n : String) : Option Bool := (tab.find? fun t => t.1 == c && t.2.1 == n).map (·.2.2)
def isOne (tbC tbT : SubT) (c : String) : D → Option Bool
  | .cl n => if n = "!" then none else subT tbC c n
  | .ty n => subT tbT c n
  | _ => none
def isAny (tbC tbT : SubT) (c : String) : List D → Option Bool
  | [] => some false
  | d :: ds => match isOne tbC tbT c d with
    | some true => (isAny tbC tbT c ds).map fun _ => true
    | some false => isAny tbC tbT c ds
    | none => none
def opIsX (tbC tbT : SubT) (c : String) : List Val → Option Val
  | [⟨_, .exc _⟩, ⟨_, .tup ds⟩] => (isAny tbC tbT c ds).map fun b => ⟨.O, .bl b⟩
  | [⟨_, .exc _⟩, ⟨_, d⟩] => (isOne tbC tbT c d).map fun b => ⟨.O, .bl b⟩
  | _ => none
structure SubF (K : PySem.W.Frag) (cl : String → Addr) (tbC tbT : SubT) : Prop where
  c : ∀ t ∈ tbC, PySem.W.kitOne K (.ref (cl t.1)) (.ref (cl t.2.1)) = some t.2.2
  t : ∀ t ∈ tbT, PySem.W.kitOne K (.ref (cl t.1)) (.type t.2.1) = some t.2.2
theorem subT_mem {tab : SubT} {c n : String} {b : Bool} (h : subT tab c n = some b) : (c, n, b) ∈ tab := by
  unfold subT at h
  cases e : tab.find? (fun t => t.1 == c && t.2.1 == n) with
  | none => rw [e] at h; cases h
  | some t =>
    rw [e] at h
    cases h
    have m := List.mem_of_find?_eq_some e
    have q := List.find?_some e
    simp only [Bool.and_eq_true, beq_iff_eq] at q
    obtain ⟨t1, t2, t3⟩ := t
    simp only at q
    rw [← q.1, ← q.2]
    exact m
section
variable {W : Wd} {a D0 : Addr} {tbC tbT : SubT} {c : String} {H G : Hp}
theorem isOne_ok (F : SubF W.K W.cls tbC tbT) (hD : W.cls c = D0) {m : Mode} {d : D} {v : V} {A : List Addr} {b : Bool} (r : Rep (WX1 W a) H G m d v A) (h : isOne tbC tbT c d = some b) : ∃ u, valOf v = some u ∧ PySem.W.kitOne W.K (.ref D0) u = some b := by
  subst hD
  cases d with
  | ty n =>
    cases r
    exact ⟨_, rfl, F.t _ (subT_mem h)⟩
  | cl n =>
    cases r
    have h : (if n = "!" then none else subT tbC c n) = some b := h
    by_cases q : n = "!"
    · rw [if_pos q] at h; cases h
    · rw [if_neg q] at h
      refine ⟨_, rfl, ?_⟩
      have := F.c _ (subT_mem h)
      show PySem.W.kitOne W.K _ (.ref (if n = "!" then a else W.cls n)) = _
      rw [if_neg q]
      exact this
  | _ => cases h
theorem isAny_ok (F : SubF W.K W.cls tbC tbT) (hD : W.cls c = D0) : ∀ {m : Mode} {ds : List D} {vs : List V} {A : List Addr} {b : Bool}, Reps (WX1 W a) H G m ds vs A → isAny tbC tbT c ds = some b → ∃ us, valsOf vs = some us ∧ PySem.W.kitAny W.K (.ref D0) us = some b
  | _, [], _, _, _, .nil _, h => by cases h; exact ⟨[], rfl, rfl⟩
  | _, d :: ds, _, _, b, .cons r t, h => by
    unfold isAny at h
    cases e : isOne tbC tbT c d with
    | none => rw [e] at h; cases h
    | some b1 =>
      rw [e] at h
      obtain ⟨u, h1, h2⟩ := isOne_ok F hD r e
      cases b1 with
      | true =>
        simp only at h
        cases e2 : isAny tbC tbT c ds with
        | none => rw [e2] at h; cases h
        | some b2 =>
          rw [e2] at h
          cases h
          obtain ⟨us, h3, _⟩ := isAny_ok F hD t e2
          refine ⟨u :: us, by unfold valsOf; rw [h1, h3], ?_⟩
          unfold PySem.W.kitAny
          rw [h2]
      | false =>
        simp only at h
        obtain ⟨us, h3, h4⟩ := isAny_ok F hD t h
        refine ⟨u :: us, by unfold valsOf; rw [h1, h3], ?_⟩
        unfold PySem.W.kitAny
        rw [h2]
        exact h4
theorem vop_isX (F : SubF W.K W.cls tbC tbT) (hD : W.cls c = D0) : VOp (WX1 W a) (rIsX W.K D0 a) (opIsX tbC tbT c) := by
  intro H G rs vs A r Q gh rep nd ga e k
  unfold opIsX at e
  split at e
  case h_3 => cases e
  · rename_i m1 n m2 ds
    cases e1 : isAny tbC tbT c ds with
    | none => rw [e1] at e; cases e
    | some b =>
      rw [e1] at e
      cases e
      obtain ⟨v, u, A1, A2, rfl, rfl, r1, r2⟩ := repL2 rep
      cases r1
      obtain ⟨tp, us, rfl, ht, rt⟩ := rep_tup r2
      obtain ⟨ws, h3, h4⟩ := isAny_ok F hD rt e1
      exact .inr ⟨tp, us, ws, b, rfl, ht, h3, h4, k _ H G [] (vpost_same gh (.bl _ _))⟩
  · rename_i m1 n m2 d _
    cases e1 : isOne tbC tbT c d with
    | none => rw [e1] at e; cases e
    | some b =>
      rw [e1] at e
      cases e
      obtain ⟨v, u, A1, A2, rfl, rfl, r1, r2⟩ := repL2 rep
      cases r1
      obtain ⟨w, h3, h4⟩ := isOne_ok F hD r2 e1
      exact .inl ⟨u, w, b, rfl, fun z hz => valOf_rel h3 hz, h4, k _ H G [] (vpost_same gh (.bl _ _))⟩
theorem ev_isX {X : Cx} {e : Expr} {es : List Expr} {fs : SA} {tA : TA} {p pos : Pos} {oe : Obj} {pn : List (Addr × Obj)} (F : SubF W.K W.cls tbC tbT) (hD : W.cls c = D0) (C : ExcC W.K D0) (hz : Zc (.ref D0) none oe) (hf : ∃ vs, oe.data = .fields vs) (hg : Gl X "isinstance") (hm : X.mg "isinstance" = none)
    (ha : EvA (WX1 W a) (X.suite a ((a, oe) :: pn)) (e :: es) fs tA) (hK : X.K = W.K := by rfl) (he : starEach (e :: es) X.env = (false, eval e X.env) :: starEach es X.env := by rfl) (hpl : (backTo pos (starEach es X.env)).any (·.1) = false := by rfl) :
    EvE (WX1 W a) (X.suite a ((a, oe) :: pn)) (.Call (.Name "isinstance" p) (e :: es) [] pos) (sApp (opIsX tbC tbT c) fs) (tCB (rIsX W.K D0 a) tA) := by
  have C' : ExcC X.K D0 := hK ▸ C
  have q : CallR (X.suite a ((a, oe) :: pn)) (.builtin "isinstance") (rIsX W.K D0 a) := hK ▸ call_isX C' hz hf
  exact ev_blt q (vop_isX F hD) hg hm (by decide +kernel) ha (by decide) (by decide) he hpl
theorem ev_cl {X : Cx} {x : Str} {pos : Pos} {W' : Wd} (n : String) (ad : Addr) (hw : W'.cls n = ad) (hg : Gl X x) (hm : X.mg x = some (.ref ad)) (hdb : (x == ("__debug__" : Str)) = false := by decide) : EvE W' X (.Name x pos) (sCon (.cl n)) (tC (.ref ad)) :=
  ev_glob (v := .ref ad) hg hm rfl (fun H G => hw ▸ Rep.cl _ _) hdb
theorem ev_ty_ValueError {X : Cx} {pos : Pos} {W' : Wd} (hg : Gl X "ValueError") (hm : X.mg "ValueError" = none) : EvE W' X (.Name "ValueError" pos) (sCon (.ty "ValueError")) (tC (.ty "ValueError")) := ev_ty hg hm (by decide +kernel)
end
end Tr

/-! TrOps3: ranges with steps. -/
namespace Tr
open PySem L2
section
variable {ρ ρ1 : Env} {fs : SA}
theorem fits_of {i : Int} (h : -10000000 ≤ i ∧ i ≤ 10000000) : Builtin.Range.rangeFitsLong i = true := by
  unfold Builtin.Range.rangeFitsLong
  simp
  omega
theorem iRange3_gen {m1 m2 m3 : Mode} {i j c : Int} {N : Nat} (h : fs ρ = some ([⟨m1, .int i⟩, ⟨m2, .int j⟩, ⟨m3, .int c⟩], ρ1)) (hi : -1000000 ≤ i ∧ i ≤ 1000000) (hj : -1000000 ≤ j ∧ j ≤ 1000000) (hc : -1000000 ≤ c ∧ c ≤ 1000000) (c0 : c ≠ 0)
    (hN : Builtin.Range.rangeSize i j c = N) (hN2 : N ≤ 1000000) : iRange3 fs ρ = some (step i c N, ρ1) := by
  have q : ok (c ≠ 0 ∧ c.natAbs < 1073741824 ∧ Builtin.Range.small i j c = true) = true := ok_of ⟨c0, by omega, by
    unfold Builtin.Range.small
    rw [fits_of (by omega), fits_of (by omega), fits_of (by omega), fits_of (by omega), fits_of (by omega), fits_of (by omega)]
    simp⟩
  unfold iRange3
  rw [h]
  simp only
  rw [if_pos q, hN]
  simp
/-- from n - 1 down to 0 -/
theorem iRange3_down {m1 m2 m3 : Mode} {N : Nat} (h : fs ρ = some ([⟨m1, .int ((N : Int) - 1)⟩, ⟨m2, .int (-1)⟩, ⟨m3, .int (-1)⟩], ρ1)) (hN : N ≤ 1000000) : iRange3 fs ρ = some ((List.range N).map fun (k : Nat) => D.int (((N - 1 - k : Nat) : Int)), ρ1) := by
  have e : Builtin.Range.rangeSize ((N : Int) - 1) (-1) (-1) = N := by
    unfold Builtin.Range.rangeSize
    rw [if_neg (by decide)]
    have e1 : - -(1 : Int) = 1 := rfl
    rw [e1, Int.ediv_one]
    split <;> omega
  rw [iRange3_gen h (by omega) (by omega) (by decide) (by decide) e hN]
  unfold step
  congr 2
  apply List.map_congr_left
  intro k hk
  have : k < N := by simpa using hk
  congr 1
  omega
theorem sFor_down {fs : SA} {g : STg} {b : SS} {N : Nat} {m1 m2 m3 : Mode} (P : Nat → Env → Prop) (h : fs ρ = some ([⟨m1, .int ((N : Int) - 1)⟩, ⟨m2, .int (-1)⟩, ⟨m3, .int (-1)⟩], ρ1)) (hN : N ≤ 1000000) (h0 : P N (freeze2 ρ ρ1))
    (hs : ∀ k ρ, k < N → P (k + 1) ρ → nxIs (once g b (.int (k : Int)) ρ) (P k)) : ∃ ρ', sFor (iRange3 fs) g b ρ = some (.nx ρ') ∧ P 0 ρ' := by
  obtain ⟨ρ', e, q⟩ := sFor_list (ρ := ρ) (src := iRange3 fs) (g := g) (b := b) (f := fun k : Nat => D.int (((N - 1 - k : Nat) : Int))) (xs := List.range N) (fun k ρ => P (N - k) ρ) (iRange3_down h hN) (by simpa using h0) (by
    intro k x ρ hx hp
    have hk : k < N := by have := lt_of_get hx; simpa using this
    rw [List.getElem?_range hk] at hx
    cases hx
    have := hs (N - 1 - k) ρ (by omega) (by rw [show N - 1 - k + 1 = N - k by omega]; exact hp)
    rw [show N - (k + 1) = N - 1 - k by omega]
    exact this)
  exact ⟨ρ', e, by simpa using q⟩
/-! at the end of a way -/
noncomputable def apndD (d : D) (r : Val) : Option D :=
  match d with
  | .lst xs => if r.m = .O ∧ ok (xs.length < sizeLine) = true then some (.lst (xs ++ [r.d])) else none
  | _ => none
@[simp] theorem sApndP_ap {i : Nat} {pe : Pth} {f : SE} : sApndP i pe f ρ = (match ρ[i]? with
  | some (some ⟨.O, false, d⟩) =>
    if d.flat then none else
    (match pEv pe d (ρ.set i (some ⟨.O, true, d⟩)) with
    | some (p, d1, ρ1) =>
      (match f ρ1 with
      | some (r, ρ2) => (match apndD d1 r with
        | some d2 => some (.nx ((restore ρ ρ2).set i (some ⟨.O, false, d.put p d2⟩)))
        | none => none)
      | none => none)
    | _ => none)
  | _ => none) := by
  unfold sApndP
  generalize ρ[i]? = z
  rcases z with _ | _ | ⟨m, lk, d⟩
  · rfl
  · rfl
  · cases m <;> cases lk <;> try rfl
    by_cases hd : d.flat = true
    · simp [hd]
    · simp only [hd, if_false, Bool.false_eq_true]
      cases pEv pe d (ρ.set i (some ⟨.O, true, d⟩)) with
      | none => rfl
      | some x =>
        obtain ⟨p, d1, ρ1⟩ := x
        cases d1 with
        | lst xs =>
          simp only
          cases f ρ1 with
          | none => rfl
          | some y =>
            obtain ⟨r, ρ2⟩ := y
            simp only [apndD]
            split <;> rfl
        | _ =>
          simp only
          cases f ρ1 with
          | none => rfl
          | some y => rfl
@[simp] theorem apndD_il {xs : List Int} {a : Int} : apndD (il xs) ⟨.O, .int a⟩ = if ok (xs.length < sizeLine) = true then some (il (xs ++ [a])) else none := by
  simp [apndD, dl]
noncomputable def setD (d : D) (r : Val) (k : Int) : Option D :=
  match d with
  | .lst xs => (match ixN xs.length k with
    | some j => if r.m = .O then some (.lst (xs.set j r.d)) else none
    | none => none)
  | _ => none
@[simp] theorem sGSubP_ap {i : Nat} {pe : Pth} {g : SE} {r : Val} : sGSubP i pe g r ρ = (match ρ[i]? with
  | some (some ⟨.O, false, d⟩) =>
    if d.flat then none else
    (match pEv pe d (ρ.set i (some ⟨.O, true, d⟩)) with
    | some (p, d1, ρ1) =>
      (match g ρ1 with
      | some (⟨_, .int k⟩, ρ2) => (match setD d1 r k with
        | some d2 => some ((restore ρ ρ2).set i (some ⟨.O, false, d.put p d2⟩))
        | none => none)
      | _ => none)
    | _ => none)
  | _ => none) := by
  unfold sGSubP
  generalize ρ[i]? = z
  rcases z with _ | _ | ⟨m, lk, d⟩
  · rfl
  · rfl
  · cases m <;> cases lk <;> try rfl
    by_cases hd : d.flat = true
    · simp [hd]
    · simp only [hd, if_false, Bool.false_eq_true]
      cases pEv pe d (ρ.set i (some ⟨.O, true, d⟩)) with
      | none => rfl
      | some x =>
        obtain ⟨p, d1, ρ1⟩ := x
        cases d1 with
        | lst xs =>
          simp only
          rcases g ρ1 with _ | ⟨⟨mk, dk⟩, ρ2⟩
          · rfl
          · cases dk <;> try rfl
            simp only [setD]
            cases ixN xs.length _ with
            | none => rfl
            | some j => simp only; split <;> rfl
        | _ =>
          simp only
          rcases g ρ1 with _ | ⟨⟨mk, dk⟩, ρ2⟩
          · rfl
          · cases dk <;> rfl
theorem setD_il {xs : List Int} {k : Nat} {a : Int} (h : k < xs.length) : setD (il xs) ⟨.O, .int a⟩ (k : Int) = some (il (xs.set k a)) := by
  simp [setD, dl, ixN_nat h, List.map_set]
@[simp] theorem pEv_base {d : D} : pEv .base d ρ = some ([], d, ρ) := rfl
@[simp] theorem pEv_ix {b : Pth} {g : SE} {d : D} : pEv (.ix b g) d ρ = (match pEv b d ρ with
    | some (p, d1, ρ1) =>
      (match g ρ1 with
      | some (⟨_, .int k⟩, ρ2) =>
        (match ixD d1 k with
        | some (j, d2) => some (p ++ [.ix j], d2, restore ρ1 ρ2)
        | none => none)
      | _ => none)
    | none => none) := rfl
@[simp] theorem ixD_tup0 {x : D} {r : List D} : ixD (.tup (x :: r)) 0 = some (0, x) := by simp [ixD, ixN]
@[simp] theorem ixD_tup1 {x y : D} {r : List D} : ixD (.tup (x :: y :: r)) 1 = some (1, y) := by
  have h : (1 : Int) < (r.length : Int) + 1 + 1 := by omega
  simp [ixD, ixN, h]
theorem ixD_dl {α : Type} {f : α → D} {xs : List α} {k : Nat} {x : α} (h : xs[k]? = some x) : ixD (dl f xs) (k : Int) = some (k, f x) := by
  have := lt_of_get h
  simp [ixD, dl, ixN_nat this, h]
@[simp] theorem put_nil {d e : D} : d.put [] e = e := by cases d <;> rfl
@[simp] theorem put_tup {xs : List D} {k : Nat} {p : List Pst} {e : D} : (D.tup xs).put (.ix k :: p) e = (match xs[k]? with
    | some d => .tup (xs.set k (d.put p e))
    | none => .tup xs) := rfl
theorem put_dl {α : Type} {f : α → D} {xs : List α} {k : Nat} {x y : α} {p : List Pst} {e : D} (h : xs[k]? = some x) (hy : (f x).put p e = f y) : (dl f xs).put (.ix k :: p) e = dl f (xs.set k y) := by
  simp [D.put, dl, h, hy, List.map_set]
end
end Tr

namespace Tr
open PySem L2
section
variable {ρ ρ1 : Env} {i : Nat} {f : SE} {fs : SA}
@[simp] theorem sCallIO_ap {o : List D → Option (Val × D)} : sCallIO i o fs ρ = (match ρ[i]? with
  | some (some s0) => (match fs ρ with
    | some (rs, ρ1) => (match ρ1[i]? with
      | some (some ⟨.O, false, d⟩) => (match o (d :: rs.map (fun (x : Val) => x.d)) with
        | some (r, d') => if r.m = .O then some (r, restore ρ (ρ1.set i (some ⟨.O, false, d'⟩))) else some (r, ρ1.set i (some ⟨.O, false, d'⟩))
        | none => none)
      | _ => none)
    | none => none)
  | _ => none) := by
  unfold sCallIO sealE
  cases e0 : ρ[i]? with
  | none => simp [e0]
  | some x =>
    cases x with
    | none => simp [e0]
    | some s =>
      obtain ⟨m, l, d⟩ := s
      cases e1 : fs ρ with
      | none => simp [e0, e1]
      | some y =>
        obtain ⟨rs, ρ1⟩ := y
        cases e2 : ρ1[i]? with
        | none => simp [e0, e1, e2]
        | some z =>
          cases z with
          | none => simp [e0, e1, e2]
          | some t =>
            obtain ⟨m2, l2, d2⟩ := t
            cases m2 <;> cases l2 <;> first
              | simp [e0, e1, e2]
              | skip
            cases e3 : o (d2 :: rs.map (fun (x : Val) => x.d)) with
            | none => simp [e0, e1, e2, e3]
            | some w => obtain ⟨r, d3⟩ := w; simp [e0, e1, e2, e3]
@[simp] theorem sCallT_ap {o : List D → Option (Val × D)} : sCallT o f fs ρ = (match f ρ with
  | some (r0, ρ1) => (match fs ρ1 with
    | some (rs, ρ2) => if r0.m = .O then (match o (r0.d :: rs.map (fun (x : Val) => x.d)) with
        | some (r, _) => if r.m = .O then some (r, restore ρ ρ2) else some (r, ρ2)
        | none => none) else none
    | none => none)
  | none => none) := by
  unfold sCallT sealE
  cases e : f ρ with
  | none => simp [e]
  | some x =>
    obtain ⟨r0, ρ1⟩ := x
    cases e1 : fs ρ1 with
    | none => simp [e, e1]
    | some x =>
      obtain ⟨rs, ρ2⟩ := x
      by_cases h : r0.m = .O
      · cases e2 : o (r0.d :: rs.map (fun (x : Val) => x.d)) with
        | none => simp [e, e1, h, e2]
        | some x => obtain ⟨r, d⟩ := x; simp [e, e1, h, e2]
      · simp [e, e1, h]
@[simp] theorem own0_O {r : Val} {d : D} : own0 r (some ⟨.O, false, d⟩ :: ρ) = some (r, d) := rfl
end
end Tr

/-! TrOpsT: texts as lists of signs. -/
namespace Tr
open PySem L2 TL
/-- the text with these signs -/
def sx (l : List Nat) : Str := ⟨l.toArray⟩
abbrev sd (l : List Nat) : D := .str (sx l)
section
variable {m p : Mode} {a b l : List Nat} {ρ ρ1 : Env}
@[simp] theorem sx_cps : (sx l).cps.toList = l := rfl
@[simp] theorem sx_len : (sx l).length = l.length := by show l.toArray.size = _; simp
theorem sx_tl (x : Str) : sx (tl x) = x := mk_tl x
theorem sx_inj : (sx a = sx b) = (a = b) := propext ⟨fun h => by have := congrArg (fun z : Str => z.cps.toList) h; simpa using this, fun h => by rw [h]⟩
@[simp] theorem sx_app : sx a ++ sx b = sx (a ++ b) := ext_tl (by rw [tl_append]; rfl)
@[simp] theorem opAdd_ss : opAdd [⟨m, sd a⟩, ⟨p, sd b⟩] = if ok (a.length + b.length ≤ sizeLine) = true then some ⟨.O, sd (a ++ b)⟩ else none := by
  show (if ok ((sx a).length + (sx b).length ≤ sizeLine) = true then some (⟨.O, .str (sx a ++ sx b)⟩ : Val) else none) = _
  rw [sx_len, sx_len, sx_app]
/-- signs that there are -/
def asc (l : List Nat) : Bool := l.all fun c => decide (c < 0x110000)
@[simp] theorem asc_nil : asc [] = true := by simp [asc]
@[simp] theorem asc_cons {c : Nat} : asc (c :: l) = (decide (c < 0x110000) && asc l) := by simp [asc]
@[simp] theorem asc_app : asc (a ++ b) = (asc a && asc b) := List.all_append
theorem asc_of (h : ∀ c ∈ l, c < 128) : asc l = true := List.all_eq_true.mpr fun c hc => decide_eq_true (by have := h c hc; omega)
theorem asc_take (h : asc l = true) (n : Nat) : asc (l.take n) = true := List.all_eq_true.mpr fun c hc => List.all_eq_true.mp h c (List.mem_of_mem_take hc)
theorem asc_drop (h : asc l = true) (n : Nat) : asc (l.drop n) = true := List.all_eq_true.mpr fun c hc => List.all_eq_true.mp h c (List.mem_of_mem_drop hc)
theorem pyOk_sd (h : asc l = true) : pyOk (sd l) = true := pyOk_of (n := 0) (by
  show (sx l).cps.all _ = true
  unfold sx
  rw [← Array.all_toList]
  exact h) (by decide)
theorem eqv_str (x y : Str) : PyData.eqv (.str x) (.str y) = decide (x = y) := by
  show (x == y) = decide (x = y)
  rfl
@[simp] theorem opEq_ss (ha : asc a = true) (hb : asc b = true) : opEq [⟨m, sd a⟩, ⟨p, sd b⟩] = some ⟨.O, .bl (decide (a = b))⟩ := by
  simp only [opEq, pyOk_sd ha, pyOk_sd hb, Bool.and_self, if_true]
  show some (⟨.O, .bl (PyData.eqv (.str (sx a)) (.str (sx b)))⟩ : Val) = _
  rw [eqv_str]
  simp only [sx_inj]
@[simp] theorem opNe_ss (ha : asc a = true) (hb : asc b = true) : opNe [⟨m, sd a⟩, ⟨p, sd b⟩] = some ⟨.O, .bl (!decide (a = b))⟩ := by
  simp only [opNe, pyOk_sd ha, pyOk_sd hb, Bool.and_self, if_true]
  show some (⟨.O, .bl (!PyData.eqv (.str (sx a)) (.str (sx b)))⟩ : Val) = _
  rw [eqv_str]
  simp only [sx_inj]
theorem idx_sd {k : Nat} {c : Nat} (h : l[k]? = some c) (hl : l.length ≤ 1000000) : opIdx [⟨m, sd l⟩, ⟨p, .int (k : Int)⟩] = some ⟨.O, sd [c]⟩ := by
  have hk := lt_of_get h
  have z : ok ((sx l).length ≤ sizeLine) = true := ok_of (by rw [sx_len]; have := sizeLine_big; omega)
  simp only [opIdx, z, if_true]
  have e : atI (sx l).cps.toList (k : Int) = some c := by
    simp only [sx_cps, atI]
    rw [ixN_nat hk]
    simpa using h
  rw [e]
  rfl
@[simp] theorem opLen_sd : opLen [⟨m, sd l⟩] = if ok (l.length ≤ sizeLine) = true then some ⟨.O, .int l.length⟩ else none := by
  show (if ok ((sx l).length ≤ sizeLine) = true then some (⟨.O, .int (sx l).length⟩ : Val) else none) = _
  rw [sx_len]
theorem cutS_to (n : Nat) : L2.cutS (sx l) none (some (n : Int)) = sx (l.take n) := by
  unfold L2.cutS
  rw [sx_cps, HT.sIx_none, HT.sIx_nat, sx_len, Nat.sub_zero, List.drop_zero]
  unfold sx
  congr 1
  by_cases h : n ≤ l.length
  · rw [Nat.min_eq_left h]
  · rw [Nat.min_eq_right (by omega), List.take_of_length_le (Nat.le_refl _), List.take_of_length_le (by omega)]
theorem cutS_from (n : Nat) : L2.cutS (sx l) (some (n : Int)) none = sx (l.drop n) := by
  unfold L2.cutS
  rw [sx_cps, HT.sIx_none, HT.sIx_nat, sx_len]
  unfold sx
  congr 1
  by_cases h : n ≤ l.length
  · rw [Nat.min_eq_left h, List.take_of_length_le (by simp)]
  · rw [Nat.min_eq_right (by omega), List.drop_of_length_le (Nat.le_refl _), List.drop_of_length_le (by omega)]; simp
@[simp] theorem sCutS_ap {f : SE} {lo u : Env → Option (Option Int × Env)} : sCutS f lo u ρ = (match f ρ with
    | some (⟨_, .str z⟩, ρ1) => (match lo ρ1 with
      | some (a, ρ2) => (match u ρ2 with
        | some (b, ρ3) => if ok (z.length ≤ sizeLine) = true then some (⟨.O, .str (L2.cutS z a b)⟩, restore ρ ρ3) else none
        | none => none)
      | none => none)
    | _ => none) := by
  unfold sCutS sealE
  cases e : f ρ with
  | none => simp only [e]
  | some x =>
    obtain ⟨⟨m, d⟩, ρ1⟩ := x
    cases d with
    | str z =>
      cases e2 : lo ρ1 with
      | none => simp only [e, e2]
      | some y =>
        obtain ⟨a, ρ2⟩ := y
        cases e3 : u ρ2 with
        | none => simp only [e, e2, e3]
        | some w =>
          obtain ⟨b, ρ3⟩ := w
          simp only [e, e2, e3]
          by_cases q : ok (z.length ≤ sizeLine) = true
          · simp only [q, if_true]
          · simp only [q, if_false]; rfl
    | _ => simp only [e]
@[simp] theorem iTxt_ap {f : SE} : iTxt f ρ = (match f ρ with
    | some (⟨_, .str z⟩, ρ1) => some (signs z, ρ1)
    | _ => none) := rfl
@[simp] theorem signs_sx : signs (sx l) = l.map fun c => sd [c] := rfl
@[simp] theorem opInS_ap {c : Nat} {neg : Bool} : opInS neg [⟨m, sd [c]⟩, ⟨p, sd b⟩] = some ⟨.O, .bl (xor neg (decide (c ∈ b)))⟩ := rfl
theorem num_sx (n : Nat) : (toString (n : Int) : Str) = sx (numL n) := ext_tl (tl_num n)
theorem opStrI_n {n : Nat} (h : n < 2 ^ 1900) : opStrI [⟨m, .int (n : Int)⟩] = some ⟨.O, sd (numL n)⟩ := by
  have z : ok ((n : Int).natAbs.log2 < 1920) = true := ok_of (by
    by_cases h0 : n = 0
    · subst h0; decide
    · rw [Int.natAbs_natCast]
      exact Nat.lt_of_lt_of_le ((Nat.log2_lt h0).mpr h) (by decide))
  simp only [opStrI, z, if_true, num_sx]
theorem opIntS_d (h : NumText.AllDigits l) (h1 : l ≠ []) (h2 : l.length ≤ 640) : opIntS [⟨m, sd l⟩] = some ⟨.O, .int (NumText.digitsVal l : Nat)⟩ := by
  have z : ok ((sx l).length ≤ 640) = true := ok_of (by rw [sx_len]; exact h2)
  have e := PySem.intText_digits (x := sx l) h h1 (by rw [sx_len]; omega)
  simp only [opIntS, z, if_true, e]
  rfl
theorem split_sx : Txt.split (sx a) (sx [32]) = (spl [32] 0 [] a).map sx := map_tl_inj (by
  rw [split_spl _ _ (by simp [tl]) (kind_ok (by decide +kernel))]
  have : ∀ ys : List (List Nat), (ys.map sx).map tl = ys := fun ys => by induction ys with
    | nil => rfl
    | cons y ys ih => rw [List.map_cons, List.map_cons, ih]; rfl
  rw [this]; rfl)
theorem opSplit_sx (h : a.length ≤ 1000000) : opSplit [⟨m, sd a⟩, ⟨p, sd [32]⟩] = some ⟨.O, dl sd (spl [32] 0 [] a)⟩ := by
  have z : ok (((sx [32]).length == 0) = false ∧ (sx a).length + 2 ≤ sizeLine) = true := ok_of ⟨by decide, by rw [sx_len]; have : (16777216 : Nat) ≤ sizeLine := Nat.le_of_ble_eq_true rfl; omega⟩
  simp only [opSplit, z, if_true, split_sx, dl, List.map_map]
  rfl
theorem opPart_sx (h : a.length ≤ 1000000) : opPart [⟨m, sd a⟩, ⟨p, sd [42]⟩] = some ⟨.O, match TL.par [42] [] a with
    | some (b, c) => .tup [sd b, sd [42], sd c]
    | none => .tup [sd a, sd [], sd []]⟩ := by
  have z : ok (((sx [42]).length == 0) = false ∧ (sx a).length ≤ sizeLine) = true := ok_of ⟨by decide, by rw [sx_len]; have := sizeLine_big; omega⟩
  simp only [opPart, z, if_true]
  rw [partition_par _ _ (by simp [tl])]
  have e : tl (sx [42]) = [42] := rfl
  have e2 : tl (sx a) = a := rfl
  rw [e, e2]
  cases TL.par [42] [] a with
  | none => rfl
  | some q => rfl
theorem isi_str : opIsi [⟨m, sd l⟩, ⟨p, .ty "str"⟩] = some ⟨.O, .bl true⟩ := rfl
end
@[simp] theorem sNever_ap {ρ : Env} : sNever ρ = none := rfl
/-! constants -/
theorem k_empty : Str.ofString "" = sx [] := by decide +kernel
theorem k_0 : Str.ofString "0" = sx [48] := by decide +kernel
theorem k_1 : Str.ofString "1" = sx [49] := by decide +kernel
theorem k_x : Str.ofString "x" = sx [120] := by decide +kernel
theorem k_xh : Str.ofString "x^" = sx [120, 94] := by decide +kernel
theorem k_star : Str.ofString "*" = sx [42] := by decide +kernel
theorem k_minus : Str.ofString "-" = sx [45] := by decide +kernel
theorem k_plus : Str.ofString "+" = sx [43] := by decide +kernel
theorem k_blank : Str.ofString " " = sx [32] := by decide +kernel
theorem k_bplus : Str.ofString " + " = sx [32, 43, 32] := by decide +kernel
theorem k_bminus : Str.ofString " - " = sx [32, 45, 32] := by decide +kernel
def figs : List Nat := [48, 49, 50, 51, 52, 53, 54, 55, 56, 57]
theorem k_figs : Str.ofString "0123456789" = sx figs := by decide +kernel
end Tr

/-! TrPS: rows of coefficients without end over a commutative ring: a commutative ring. -/
namespace Tr
section
variable {α : Type} [R : Lean.Grind.CommRing α]
def mulc (a b : Nat → α) : Nat → α
  | 0 => a 0 * b 0
  | n + 1 => a 0 * b (n + 1) + mulc (fun k => a (k + 1)) b n
theorem mulc_zero {b : Nat → α} : ∀ (n : Nat) {a : Nat → α}, (∀ k, a k = 0) → mulc a b n = 0
  | 0, a, h => by rw [mulc, h]; grind
  | n + 1, a, h => by rw [mulc, h, mulc_zero n fun k => h (k + 1)]; grind
theorem mulc_add {b : Nat → α} : ∀ (n : Nat) {a a' : Nat → α}, mulc (fun k => a k + a' k) b n = mulc a b n + mulc a' b n
  | 0, a, a' => by simp only [mulc]; grind
  | n + 1, a, a' => by
    have := mulc_add (b := b) n (a := fun k => a (k + 1)) (a' := fun k => a' (k + 1))
    simp only [mulc, this]
    grind
theorem mulc_neg {b : Nat → α} : ∀ (n : Nat) {a : Nat → α}, mulc (fun k => -a k) b n = -mulc a b n
  | 0, a => by simp only [mulc]; grind
  | n + 1, a => by
    have := mulc_neg (b := b) n (a := fun k => a (k + 1))
    simp only [mulc, this]
    grind
theorem mulc_smul {c : α} {b : Nat → α} : ∀ (n : Nat) {a : Nat → α}, mulc (fun k => c * a k) b n = c * mulc a b n
  | 0, a => by simp only [mulc]; grind
  | n + 1, a => by
    have := mulc_smul (c := c) (b := b) n (a := fun k => a (k + 1))
    simp only [mulc, this]
    grind
theorem mulc_succ : ∀ (n : Nat) {a b : Nat → α}, mulc a b (n + 1) = a (n + 1) * b 0 + mulc a (fun k => b (k + 1)) n
  | 0, a, b => by simp only [mulc]; grind
  | n + 1, a, b => by
    have := mulc_succ n (a := fun k => a (k + 1)) (b := b)
    rw [mulc, this, mulc]
    grind
theorem mulc_comm : ∀ (n : Nat) {a b : Nat → α}, mulc a b n = mulc b a n
  | 0, a, b => by simp only [mulc]; grind
  | n + 1, a, b => by
    rw [mulc, mulc_succ, mulc_comm n]
    grind
theorem mulc_assoc : ∀ (n : Nat) {a b c : Nat → α}, mulc (mulc a b) c n = mulc a (mulc b c) n
  | 0, a, b, c => by simp only [mulc]; grind
  | n + 1, a, b, c => by
    have e : (fun k => mulc a b (k + 1)) = fun k => (fun k => a 0 * b (k + 1)) k + (mulc (fun k => a (k + 1)) b) k := by
      funext k
      rw [mulc]
    rw [mulc, e, mulc_add n, mulc_smul n, mulc_assoc n, mulc, mulc, mulc]
    grind
theorem mulc_one {b : Nat → α} : ∀ (n : Nat) {a : Nat → α}, a 0 = 1 → (∀ k, a (k + 1) = 0) → mulc a b n = b n
  | 0, a, h, h2 => by rw [mulc, h]; grind
  | n + 1, a, h, h2 => by rw [mulc, h, mulc_zero n h2]; grind
theorem mulc_congr {a a' b b' : Nat → α} {n : Nat} (h : ∀ k, k ≤ n → a k = a' k) (h' : ∀ k, k ≤ n → b k = b' k) : mulc a b n = mulc a' b' n := by
  induction n generalizing a a' with
  | zero => rw [mulc, mulc, h 0 (Nat.le_refl _), h' 0 (Nat.le_refl _)]
  | succ n ih => rw [mulc, mulc, h 0 (by omega), h' (n + 1) (Nat.le_refl _), ih (fun k hk => h (k + 1) (by omega)) fun k hk => h' k (by omega)]
/-- only one of the first row -/
theorem mulc_mono {b : Nat → α} : ∀ (n i : Nat) {a : Nat → α}, (∀ k, k ≠ i → a k = 0) → mulc a b n = if i ≤ n then a i * b (n - i) else 0
  | 0, 0, a, h => by simp [mulc]
  | 0, i + 1, a, h => by rw [mulc, h 0 (by omega)]; simp; grind
  | n + 1, 0, a, h => by
    rw [mulc, mulc_zero n fun k => h (k + 1) (by omega)]
    simp
    grind
  | n + 1, i + 1, a, h => by
    rw [mulc, h 0 (by omega), mulc_mono n i (a := fun k => a (k + 1)) fun k hk => h (k + 1) (by omega)]
    by_cases q : i ≤ n
    · rw [if_pos q, if_pos (by omega), show n + 1 - (i + 1) = n - i by omega]; grind
    · rw [if_neg q, if_neg (by omega)]; grind
/-- beyond both ends -/
theorem mulc_end {b : Nat → α} {m : Nat} (hb : ∀ k, m ≤ k → b k = 0) : ∀ {n : Nat} {a : Nat → α} {t : Nat}, (∀ k, n ≤ k → a k = 0) → n + m ≤ t + 1 → mulc a b t = 0
  | 0, a, t, ha, _ => mulc_zero t fun k => ha k (Nat.zero_le _)
  | n + 1, a, t, ha, h => by
    cases t with
    | zero =>
      rw [mulc, hb 0 (by omega)]
      grind
    | succ t =>
      rw [mulc, hb (t + 1) (by omega), mulc_end hb (n := n) (a := fun k => a (k + 1)) (t := t) (fun k hk => ha (k + 1) (by omega)) (by omega)]
      grind
/-- the top one of a product -/
theorem mulc_top {b : Nat → α} {m : Nat} (hb : ∀ k, m < k → b k = 0) : ∀ {n : Nat} {a : Nat → α}, (∀ k, n < k → a k = 0) → mulc a b (n + m) = a n * b m
  | 0, a, ha => by
    rw [mulc_mono (0 + m) 0 fun k hk => ha k (by omega)]
    simp
  | n + 1, a, ha => by
    rw [show n + 1 + m = (n + m) + 1 by omega, mulc, hb (n + m + 1) (by omega), mulc_top hb (n := n) (a := fun k => a (k + 1)) fun k hk => ha (k + 1) (by omega)]
    grind
end
theorem mulc_bits {b : Nat → Int} {A B : Nat} (hb : ∀ k, (b k).natAbs < 2 ^ B) : ∀ (n : Nat) {a : Nat → Int}, (∀ k, (a k).natAbs < 2 ^ A) → (mulc a b n).natAbs < 2 ^ (A + B + n)
  | 0, a, ha => by
    rw [mulc, Int.natAbs_mul, Nat.add_zero, Nat.pow_add]
    exact Nat.mul_lt_mul'' (ha 0) (hb 0)
  | n + 1, a, ha => by
    rw [mulc]
    have h1 : (a 0 * b (n + 1)).natAbs < 2 ^ (A + B) := by
      rw [Int.natAbs_mul, Nat.pow_add]
      exact Nat.mul_lt_mul'' (ha 0) (hb _)
    have h2 := mulc_bits hb n (a := fun k => a (k + 1)) fun k => ha (k + 1)
    have h3 : 2 ^ (A + B) ≤ 2 ^ (A + B + n) := Nat.pow_le_pow_right (by decide) (by omega)
    rw [show A + B + (n + 1) = (A + B + n) + 1 by omega, Nat.pow_succ]
    omega
structure PS (α : Type) where
  c : Nat → α
namespace PS
variable {α : Type} [R : Lean.Grind.CommRing α]
theorem ext {a b : PS α} (h : ∀ k, a.c k = b.c k) : a = b := by
  obtain ⟨a⟩ := a
  obtain ⟨b⟩ := b
  congr
  exact funext h
/-- a constant -/
def C (x : α) : PS α := ⟨fun k => if k = 0 then x else 0⟩
/-- the letter to a power, so many times -/
def M (x : α) (i : Nat) : PS α := ⟨fun k => if k = i then x else 0⟩
instance : Add (PS α) := ⟨fun a b => ⟨fun k => a.c k + b.c k⟩⟩
instance : Mul (PS α) := ⟨fun a b => ⟨mulc a.c b.c⟩⟩
instance : Neg (PS α) := ⟨fun a => ⟨fun k => -a.c k⟩⟩
instance : Sub (PS α) := ⟨fun a b => ⟨fun k => a.c k - b.c k⟩⟩
instance : NatCast (PS α) := ⟨fun n => C (R.natCast.natCast n)⟩
instance : IntCast (PS α) := ⟨fun n => C (R.intCast.intCast n)⟩
instance (n : Nat) : OfNat (PS α) n := ⟨C (OfNat.ofNat n)⟩
instance : SMul Nat (PS α) := ⟨fun n a => (n : PS α) * a⟩
instance : SMul Int (PS α) := ⟨fun n a => (n : PS α) * a⟩
def pw (a : PS α) : Nat → PS α
  | 0 => C 1
  | n + 1 => pw a n * a
instance : HPow (PS α) Nat (PS α) := ⟨pw⟩
@[simp] theorem add_c (a b : PS α) (k : Nat) : (a + b).c k = a.c k + b.c k := rfl
@[simp] theorem sub_c (a b : PS α) (k : Nat) : (a - b).c k = a.c k - b.c k := rfl
@[simp] theorem neg_c (a : PS α) (k : Nat) : (-a).c k = -a.c k := rfl
theorem mul_c (a b : PS α) (k : Nat) : (a * b).c k = mulc a.c b.c k := rfl
theorem zero_c (k : Nat) : (0 : PS α).c k = 0 := by
  show (if k = 0 then (0 : α) else 0) = 0
  split <;> rfl
theorem one_c (k : Nat) : (1 : PS α).c k = if k = 0 then 1 else 0 := rfl
theorem C_c (x : α) (k : Nat) : (C x).c k = if k = 0 then x else 0 := rfl
theorem M_c (x : α) (i k : Nat) : (M x i).c k = if k = i then x else 0 := rfl
theorem M_mul (x : α) (i : Nat) (b : PS α) (n : Nat) : (M x i * b).c n = if i ≤ n then x * b.c (n - i) else 0 := by
  rw [mul_c, mulc_mono n i fun k hk => by rw [M_c, if_neg hk]]
  simp [M_c]
theorem C_mul (x : α) (b : PS α) (n : Nat) : (C x * b).c n = x * b.c n := by
  have e : C x = M x 0 := rfl
  rw [e, M_mul]
  simp
instance : Lean.Grind.CommRing (PS α) where
  add_zero a := ext fun k => by rw [add_c, zero_c]; grind
  add_comm a b := ext fun k => by rw [add_c, add_c]; grind
  add_assoc a b c := ext fun k => by simp only [add_c]; grind
  mul_assoc a b c := ext fun k => by simp only [mul_c]; exact mulc_assoc k
  mul_comm a b := ext fun k => by simp only [mul_c]; exact mulc_comm k
  one_mul a := ext fun k => by
    rw [mul_c]
    exact mulc_one k (by rw [one_c]; rfl) fun k => by rw [one_c]; simp
  right_distrib a b c := ext fun k => by simp only [mul_c, add_c]; exact mulc_add k
  mul_zero a := ext fun k => by
    rw [mul_c, mulc_comm, zero_c]
    exact mulc_zero k fun k => zero_c k
  mul_one a := ext fun k => by
    rw [mul_c, mulc_comm]
    exact mulc_one k (by rw [one_c]; rfl) fun k => by rw [one_c]; simp
  left_distrib a b c := ext fun k => by
    rw [mul_c, mulc_comm, add_c, mul_c, mul_c, mulc_comm k (a := a.c) (b := b.c), mulc_comm k (a := a.c) (b := c.c)]
    exact mulc_add k
  zero_mul a := ext fun k => by
    rw [mul_c, zero_c]
    exact mulc_zero k fun k => zero_c k
  pow_zero a := rfl
  pow_succ a n := rfl
  ofNat_succ n := ext fun k => by
    show (if k = 0 then (OfNat.ofNat (n + 1) : α) else 0) = (if k = 0 then (OfNat.ofNat n : α) else 0) + (if k = 0 then 1 else 0)
    split
    · exact R.ofNat_succ n
    · grind
  ofNat_eq_natCast n := congrArg C (R.ofNat_eq_natCast n)
  neg_add_cancel a := ext fun k => by rw [add_c, neg_c, zero_c]; grind
  sub_eq_add_neg a b := ext fun k => by rw [add_c, neg_c, sub_c]; grind
  neg_zsmul i a := ext fun k => by
    show (C (R.intCast.intCast (-i)) * a).c k = -(C (R.intCast.intCast i) * a).c k
    rw [C_mul, C_mul]
    have := R.intCast_neg i
    have e : (R.intCast.intCast (-i)) = -(R.intCast.intCast i) := this
    rw [e]
    grind
  zsmul_natCast_eq_nsmul n a := by
    show C (R.intCast.intCast (n : Int)) * a = C (R.natCast.natCast n) * a
    have e : (R.intCast.intCast (n : Int)) = R.natCast.natCast n := Lean.Grind.Ring.intCast_natCast n
    rw [e]
  intCast_ofNat n := congrArg C (R.intCast_ofNat n)
  intCast_neg n := ext fun k => by
    show (C (R.intCast.intCast (-n))).c k = -(C (R.intCast.intCast n)).c k
    have e : (R.intCast.intCast (-n)) = -(R.intCast.intCast n) := R.intCast_neg n
    rw [C_c, C_c, e]
    split <;> grind
example (a b : PS Int) : (a + b) * (a - b) = a * a - b * b := by grind
end PS
end Tr

namespace Tr
open PySem L2
/-! fractions -/
def frG (t b : Int) : Int := if b < 0 then 0 - (Int.gcd t b : Int) else (Int.gcd t b : Int)
def frT (t b : Int) : Int := t.fdiv (frG t b)
def frB (t b : Int) : Int := b.fdiv (frG t b)
theorem frG_ne {t b : Int} (h : b ≠ 0) : frG t b ≠ 0 := by
  have : Int.gcd t b ≠ 0 := by
    intro z
    exact h (Int.gcd_eq_zero_iff.mp z).2
  unfold frG
  split <;> omega
theorem frG_abs {t b : Int} : (frG t b).natAbs = Int.gcd t b := by
  unfold frG
  split <;> omega
theorem frG_dvd {t b : Int} : frG t b ∣ t ∧ frG t b ∣ b := by
  have h1 : ((Int.gcd t b : Nat) : Int) ∣ t := Int.gcd_dvd_left ..
  have h2 : ((Int.gcd t b : Nat) : Int) ∣ b := Int.gcd_dvd_right ..
  unfold frG
  split
  · rw [Int.zero_sub]
    exact ⟨Int.neg_dvd.mpr h1, Int.neg_dvd.mpr h2⟩
  · exact ⟨h1, h2⟩
theorem frT_mul {t b : Int} : frT t b * frG t b = t := by
  unfold frT
  rw [Int.fdiv_eq_ediv_of_dvd frG_dvd.1]
  exact Int.ediv_mul_cancel frG_dvd.1
theorem frB_mul {t b : Int} : frB t b * frG t b = b := by
  unfold frB
  rw [Int.fdiv_eq_ediv_of_dvd frG_dvd.2]
  exact Int.ediv_mul_cancel frG_dvd.2
theorem frB_pos {t b : Int} (h : b ≠ 0) : 0 < frB t b := by
  have e := frB_mul (t := t) (b := b)
  have g := frG_ne (t := t) h
  by_cases hb : b < 0
  · have hg : frG t b < 0 := by
      unfold frG at g ⊢
      rw [if_pos hb] at g ⊢
      omega
    refine Int.lt_of_not_ge fun z => ?_
    have := Int.mul_nonneg_of_nonpos_of_nonpos (a := frB t b) (b := frG t b) z (by omega)
    omega
  · have hg : 0 < frG t b := by
      unfold frG at g ⊢
      rw [if_neg hb] at g ⊢
      omega
    refine Int.lt_of_not_ge fun z => ?_
    have := Int.mul_nonpos_of_nonpos_of_nonneg (a := frB t b) (b := frG t b) z (by omega)
    omega
theorem fr_gcd {t b : Int} (h : b ≠ 0) : Int.gcd (frT t b) (frB t b) = 1 := by
  have g : 0 < Int.gcd t b := Nat.pos_of_ne_zero fun z => h (Int.gcd_eq_zero_iff.mp z).2
  have e : Int.gcd (frT t b * frG t b) (frB t b * frG t b) = Int.gcd t b := by rw [frT_mul, frB_mul]
  rw [Int.gcd_mul_right, frG_abs] at e
  exact Nat.eq_of_mul_eq_mul_right g (by omega)
theorem fr_cross {t b : Int} : frT t b * b = t * frB t b := by
  have e1 := frT_mul (t := t) (b := b)
  have e2 := frB_mul (t := t) (b := b)
  calc frT t b * b = frT t b * (frB t b * frG t b) := by rw [e2]
    _ = frT t b * frG t b * frB t b := by rw [Int.mul_assoc, Int.mul_comm (frG t b)]
    _ = t * frB t b := by rw [e1]
theorem fr_le {t b : Int} (h : b ≠ 0) : (frT t b).natAbs ≤ t.natAbs ∧ (frB t b).natAbs ≤ b.natAbs := by
  have g := frG_ne (t := t) h
  have e1 := congrArg Int.natAbs (frT_mul (t := t) (b := b))
  have e2 := congrArg Int.natAbs (frB_mul (t := t) (b := b))
  rw [Int.natAbs_mul] at e1 e2
  have g1 : 1 ≤ (frG t b).natAbs := by omega
  constructor
  · rw [← e1]; exact Nat.le_mul_of_pos_right _ g1
  · rw [← e2]; exact Nat.le_mul_of_pos_right _ g1
/-- what a fraction of two is -/
def Fr (p q t b : Int) : Prop := 0 < q ∧ Int.gcd p q = 1 ∧ p * b = t * q ∧ p.natAbs ≤ t.natAbs ∧ q.natAbs ≤ b.natAbs
theorem fr_of {t b : Int} (h : b ≠ 0) : Fr (frT t b) (frB t b) t b := ⟨frB_pos h, fr_gcd h, fr_cross, (fr_le h).1, (fr_le h).2⟩
end Tr

namespace Tr
open PySem L2
/-! polynomials as lists of ints -/
def trim : List Int → List Int
  | [] => []
  | x :: xs => match trim xs with
    | [] => if x = 0 then [] else [x]
    | y :: ys => x :: y :: ys
theorem trim_cons_ne {x : Int} {xs : List Int} (h : trim xs ≠ []) : trim (x :: xs) = x :: trim xs := by
  rw [trim]
  split
  · contradiction
  · rename_i e
    rw [e]
theorem trim_cons_nil {x : Int} {xs : List Int} (h : trim xs = []) : trim (x :: xs) = if x = 0 then [] else [x] := by
  rw [trim, h]
theorem trim_nth : ∀ (xs : List Int) (k : Nat), nth (trim xs) k = nth xs k
  | [], k => by simp [trim]
  | x :: xs, k => by
    by_cases h : trim xs = []
    · rw [trim_cons_nil h]
      have ih := trim_nth xs
      rw [h] at ih
      split
      · rename_i hx
        cases k with
        | zero => simp [hx]
        | succ k => simpa using ih k
      · cases k with
        | zero => simp
        | succ k => simpa using ih k
    · rw [trim_cons_ne h]
      cases k with
      | zero => simp
      | succ k => simpa using trim_nth xs k
theorem trim_zero : ∀ {xs : List Int}, (∀ k, nth xs k = 0) → trim xs = []
  | [], _ => rfl
  | x :: xs, h => by
    rw [trim_cons_nil (trim_zero fun k => by simpa using h (k + 1)), if_pos (by simpa using h 0)]
theorem trim_nil_zero {xs : List Int} (h : trim xs = []) (k : Nat) : nth xs k = 0 := by
  rw [← trim_nth, h]
  simp
theorem trim_ext : ∀ {xs ys : List Int}, (∀ k, nth xs k = nth ys k) → trim xs = trim ys
  | [], ys, h => by rw [trim_zero (xs := ys) fun k => by rw [← h k]; simp]; rfl
  | x :: xs, [], h => by rw [trim_zero (xs := x :: xs) fun k => by rw [h k]; simp]; rfl
  | x :: xs, y :: ys, h => by
    have e : x = y := by simpa using h 0
    subst e
    have ih : trim xs = trim ys := trim_ext fun k => by simpa using h (k + 1)
    by_cases q : trim xs = []
    · rw [trim_cons_nil q, trim_cons_nil (ih ▸ q)]
    · rw [trim_cons_ne q, trim_cons_ne (ih ▸ q), ih]
theorem trim_trim (xs : List Int) : trim (trim xs) = trim xs := trim_ext (trim_nth xs)
theorem trim_snoc0 (xs : List Int) : trim (xs ++ [0]) = trim xs := trim_ext fun k => by
  by_cases h : k < xs.length
  · rw [nth_app1 h]
  · rw [nth_app2 (by omega), nth_ge (xs := xs) (by omega)]
    cases q : k - xs.length with
    | zero => rfl
    | succ n => simp
theorem trim_snoc {a : Int} (ha : a ≠ 0) : ∀ xs : List Int, trim (xs ++ [a]) = xs ++ [a]
  | [] => by simp [trim, ha]
  | x :: xs => by
    have ih := trim_snoc ha xs
    rw [List.cons_append, trim_cons_ne (by rw [ih]; simp), ih]
def padd (f g : List Int) : List Int := (List.range (max f.length g.length)).map fun k => nth f k + nth g k
/-- what a trimmed list is -/
theorem trim_form (xs : List Int) : trim xs = [] ∨ ∃ ys a, trim xs = ys ++ [a] ∧ a ≠ 0 := by
  rcases List.eq_nil_or_concat (trim xs) with h | ⟨ys, a, h⟩
  · exact .inl h
  · refine .inr ⟨ys, a, by simpa using h, fun z => ?_⟩
    subst z
    have h : trim xs = ys ++ [0] := by simpa using h
    have e := trim_trim xs
    rw [h, trim_snoc0] at e
    have l := congrArg List.length e
    have le : ∀ zs : List Int, (trim zs).length ≤ zs.length := fun zs => by
      induction zs with
      | nil => simp [trim]
      | cons z zs ih =>
        by_cases q : trim zs = []
        · rw [trim_cons_nil q]; split <;> simp
        · rw [trim_cons_ne q]; simpa using ih
    have := le ys
    simp at l
    omega
end Tr

namespace Tr
open PySem L2
/-- the loop that leaves the noughts at the end -/
theorem trim_loop (xs : List Int) : ∀ n : Nat, n ≤ xs.length → ∃ q : Nat,
    sWhile (sAnd (sTest (sApp2 opGt (sVar 1) (sCon (.int 0)))) (sTest (sApp2 opEq (sApp2 opIdx (sVar 0) (sApp2 opSub (sVar 1) (sCon (.int 1)))) (sCon (.int 0))))) (sSet 1 (sApp2 opSub (sVar 1) (sCon (.int 1))))
      [some ⟨.F, false, il xs⟩, some ⟨.O, false, .int (n : Int)⟩] = some (.nx [some ⟨.F, false, il xs⟩, some ⟨.O, false, .int (q : Int)⟩]) ∧ xs.take q = trim (xs.take n)
  | 0, _ => ⟨0, while_false (by simp), by simp [trim]⟩
  | n + 1, h => by
    have hn : n < xs.length := by omega
    have e1 : ((n : Int) + 1 - 1) = (n : Int) := by omega
    have ix := idx_il (m := .F) (p := .O) hn
    have tk : xs.take (n + 1) = xs.take n ++ [nth xs n] := take_nth hn
    have pos : (0 : Int) < (n : Int) + 1 := by omega
    by_cases z : nth xs n = 0
    · obtain ⟨q, e, ht⟩ := trim_loop xs n (by omega)
      refine ⟨q, ?_, by rw [ht, tk, z, trim_snoc0]⟩
      rw [z] at ix
      rw [while_step (ρ1 := [some ⟨.F, false, il xs⟩, some ⟨.O, false, .int ((n + 1 : Nat) : Int)⟩]) (ρ2 := [some ⟨.F, false, il xs⟩, some ⟨.O, false, .int (n : Int)⟩])
        (by simp [e1, ix, pos]) (by simp [e1]), e]
    · refine ⟨n + 1, while_false ?_, by rw [tk, trim_snoc z]⟩
      simp only [sAnd_ap, sTest_ap, sApp2_ap, sApp_ap]
      simp [e1, ix, pos]
      simpa [hn] using z
end Tr

namespace Tr
open PySem L2 PS
/-! a list of ints as a row without end -/
def pc (f : List Int) : PS Int := ⟨fun k => nth f k⟩
def ofc (n : Nat) (a : PS Int) : List Int := (List.range n).map a.c
@[simp] theorem pc_c (f : List Int) (k : Nat) : (pc f).c k = nth f k := rfl
@[simp] theorem ofc_len (n : Nat) (a : PS Int) : (ofc n a).length = n := by simp [ofc]
theorem ofc_nth {n : Nat} {a : PS Int} {k : Nat} (h : k < n) : nth (ofc n a) k = a.c k := nth_range h
theorem pc_ofc {n : Nat} {a : PS Int} (h : ∀ k, n ≤ k → a.c k = 0) : pc (ofc n a) = a := ext fun k => by
  by_cases q : k < n
  · rw [pc_c, ofc_nth q]
  · rw [pc_c, h k (by omega), nth_ge (by simp; omega)]
theorem trim_pc {f g : List Int} (h : pc f = pc g) : trim f = trim g := trim_ext fun k => by
  have := congrArg (fun a => a.c k) h
  simpa using this
@[simp] theorem pc_trim (f : List Int) : pc (trim f) = pc f := ext fun k => trim_nth f k
theorem pc_padd (f g : List Int) : pc (padd f g) = pc f + pc g := ext fun k => by
  by_cases q : k < max f.length g.length
  · rw [add_c, pc_c, pc_c, pc_c, padd, nth_range q]
  · rw [add_c, pc_c, pc_c, pc_c, nth_ge (xs := f) (by omega), nth_ge (xs := g) (by omega), nth_ge (by simp [padd]; omega)]
    rfl
theorem pc_set {c : List Int} {k : Nat} {a : Int} (h : k < c.length) : pc (c.set k a) = pc c + M (a - nth c k) k := ext fun t => by
  rw [add_c, pc_c, pc_c, M_c, nth_set h]
  by_cases e : t = k
  · subst e; simp; omega
  · simp [e]
theorem pc_snoc {c : List Int} {a : Int} : pc (c ++ [a]) = pc c + M a c.length := ext fun t => by
  rw [add_c, pc_c, pc_c, M_c]
  by_cases h : t < c.length
  · rw [nth_app1 h, if_neg (by omega)]; simp
  · rw [nth_app2 (by omega), nth_ge (xs := c) (by omega)]
    by_cases e : t = c.length
    · subst e; simp
    · rw [if_neg e, nth_ge (by simp; omega)]; simp
theorem pc_nil : pc [] = 0 := ext fun k => by simp [zero_c]
theorem pc_take_succ {g : List Int} {j : Nat} (h : j < g.length) : pc (g.take (j + 1)) = pc (g.take j) + M (nth g j) j := by
  have e : g.take (j + 1) = g.take j ++ [nth g j] := take_nth h
  rw [e, pc_snoc, List.length_take, Nat.min_eq_left (by omega)]
theorem pc_rep (n : Nat) : pc (List.replicate n 0) = 0 := ext fun k => by rw [zero_c, pc_c, nth_rep]
end Tr
namespace Tr.PS
variable {α : Type} [R : Lean.Grind.CommRing α]
theorem M_M (x y : α) (i j : Nat) : M x i * M y j = M (x * y) (i + j) := ext fun k => by
  rw [M_mul, M_c, M_c]
  by_cases h : k = i + j
  · subst h; simp
  · rw [if_neg h]
    by_cases h2 : i ≤ k
    · rw [if_pos h2, if_neg (by omega)]; grind
    · rw [if_neg h2]
theorem M_zero (i : Nat) : M (0 : α) i = 0 := ext fun k => by
  rw [M_c, zero_c]; split <;> rfl
theorem M_add (x y : α) (i : Nat) : M x i + M y i = M (x + y) i := ext fun k => by
  rw [add_c, M_c, M_c, M_c]; split <;> grind
theorem M_neg (x : α) (i : Nat) : - M x i = M (-x) i := ext fun k => by
  rw [neg_c, M_c, M_c]; split <;> grind
theorem C_M (x y : α) (j : Nat) : C x * M y j = M (x * y) j := by
  have := M_M x y 0 j
  rw [Nat.zero_add] at this
  exact this
theorem C_one : C (1 : α) = 1 := rfl
theorem C_zero : C (0 : α) = 0 := rfl
end Tr.PS
namespace Tr
open PySem L2 PS
theorem trim_mem : ∀ {xs : List Int} {a : Int}, a ∈ trim xs → a ∈ xs
  | [], a, h => by simp [trim] at h
  | x :: xs, a, h => by
    by_cases q : trim xs = []
    · rw [trim_cons_nil q] at h
      split at h
      · simp at h
      · simp at h; simp [h]
    · rw [trim_cons_ne q] at h
      rcases List.mem_cons.mp h with h | h
      · simp [h]
      · exact List.mem_cons_of_mem _ (trim_mem h)
/-- sums, products, trimmed -/
def pAdd (f g : List Int) : List Int := trim (padd f g)
def pMul (f g : List Int) : List Int := trim (ofc (f.length + g.length) (pc f * pc g))
def pScl (n : Int) (f : List Int) : List Int := trim (f.map fun a => n * a)
def pSub (f g : List Int) : List Int := pAdd f (pScl (-1) g)
theorem mul_end {f g : List Int} {k : Nat} (h : f.length + g.length ≤ k + 1) : (pc f * pc g).c k = 0 := by
  rw [mul_c]
  exact mulc_end (m := g.length) (n := f.length) (fun k hk => nth_ge hk) (fun k hk => nth_ge hk) h
theorem nth_map0 {g : Int → Int} (h : g 0 = 0) (f : List Int) (k : Nat) : nth (f.map g) k = g (nth f k) := by
  by_cases q : k < f.length
  · exact nth_map (nth_lt q)
  · rw [nth_ge (by simpa using q), nth_ge (by omega), h]
theorem pc_map_mul (n : Int) (f : List Int) : pc (f.map fun a => n * a) = C n * pc f := ext fun k => by
  rw [C_mul, pc_c, pc_c, nth_map0 (by simp)]
@[simp] theorem pc_pAdd (f g : List Int) : pc (pAdd f g) = pc f + pc g := by rw [pAdd, pc_trim, pc_padd]
@[simp] theorem pc_pMul (f g : List Int) : pc (pMul f g) = pc f * pc g := by rw [pMul, pc_trim, pc_ofc fun k hk => mul_end (by omega)]
@[simp] theorem pc_pScl (n : Int) (f : List Int) : pc (pScl n f) = C n * pc f := by rw [pScl, pc_trim, pc_map_mul]
theorem C_neg1 : C (-1 : Int) = -1 := ext fun k => by
  rw [C_c, neg_c, one_c]
  split <;> rfl
@[simp] theorem pc_pSub (f g : List Int) : pc (pSub f g) = pc f - pc g := by rw [pSub, pc_pAdd, pc_pScl, C_neg1]; grind
/-- a polynomial: the last not 0 -/
def Trm (f : List Int) : Prop := trim f = f
theorem Trm.trim (f : List Int) : Trm (trim f) := trim_trim f
theorem Trm.eq {f g : List Int} (hf : Trm f) (hg : Trm g) (h : pc f = pc g) : f = g := by
  rw [← hf, ← hg, trim_pc h]
theorem trm_pAdd (f g : List Int) : Trm (pAdd f g) := trim_trim _
theorem trm_pMul (f g : List Int) : Trm (pMul f g) := trim_trim _
theorem trm_pScl (n : Int) (f : List Int) : Trm (pScl n f) := trim_trim _
theorem trm_pSub (f g : List Int) : Trm (pSub f g) := trim_trim _
theorem trim_len_le : ∀ xs : List Int, (trim xs).length ≤ xs.length
  | [] => by simp [trim]
  | z :: zs => by
    have ih := trim_len_le zs
    by_cases q : trim zs = []
    · rw [trim_cons_nil q]; split <;> simp
    · rw [trim_cons_ne q]; simpa using ih
theorem Trm.last {xs : List Int} (h : Trm xs) (h0 : xs ≠ []) : nth xs (xs.length - 1) ≠ 0 := by
  rcases trim_form xs with e | ⟨ys, a, e, ha⟩
  · rw [h] at e; exact absurd e h0
  · rw [h] at e
    subst e
    rw [nth_app2 (by simp)]
    simpa using ha
theorem zero_bits (n : Nat) : (0 : Int).natAbs < 2 ^ n := by simp [Nat.pow_pos]
theorem nth_bits {f : List Int} {b k : Nat} (h : ∀ a ∈ f, a.natAbs < 2 ^ b) : (nth f k).natAbs < 2 ^ b := by
  by_cases q : k < f.length
  · exact h _ (nth_mem q)
  · rw [nth_ge (by omega)]; exact zero_bits b
theorem bits_nth {f : List Int} {b : Nat} (h : ∀ k, (nth f k).natAbs < 2 ^ b) : ∀ a ∈ f, a.natAbs < 2 ^ b := fun a ha => by
  obtain ⟨k, hk⟩ := List.mem_iff_getElem?.mp ha
  rw [← nth_get hk]
  exact h k
theorem nth_pc {f g : List Int} (h : pc f = pc g) (k : Nat) : nth f k = nth g k := congrArg (fun a => a.c k) h
theorem nth_pMul (f g : List Int) (k : Nat) : nth (pMul f g) k = (pc f * pc g).c k := congrArg (fun a => a.c k) (pc_pMul f g)
theorem pMul_len (f g : List Int) : (pMul f g).length ≤ f.length + g.length := Nat.le_trans (trim_len_le _) (by simp)
theorem pMul_bits {f g : List Int} {a b : Nat} (hf : ∀ x ∈ f, x.natAbs < 2 ^ a) (hg : ∀ x ∈ g, x.natAbs < 2 ^ b) : ∀ x ∈ pMul f g, x.natAbs < 2 ^ (a + b + (f.length + g.length)) := fun x hx => by
  have hx := trim_mem hx
  obtain ⟨k, hk, rfl⟩ := List.mem_map.mp hx
  have hk : k < f.length + g.length := by simpa using hk
  rw [mul_c]
  exact Nat.lt_of_lt_of_le (mulc_bits (fun k => nth_bits hg) k (fun k => nth_bits hf)) (Nat.pow_le_pow_right (by decide) (by omega))
theorem pAdd_bits {f g : List Int} {a : Nat} (hf : ∀ x ∈ f, x.natAbs < 2 ^ a) (hg : ∀ x ∈ g, x.natAbs < 2 ^ a) : ∀ x ∈ pAdd f g, x.natAbs < 2 ^ (a + 1) := fun x hx => by
  have hx := trim_mem hx
  obtain ⟨k, hk, rfl⟩ := List.mem_map.mp hx
  have h1 := nth_bits (k := k) hf
  have h2 := nth_bits (k := k) hg
  rw [Nat.pow_succ]
  omega
theorem pAdd_len (f g : List Int) : (pAdd f g).length ≤ max f.length g.length := Nat.le_trans (trim_len_le _) (by simp [padd])
theorem pScl_bits {n : Int} {f : List Int} {a b : Nat} (hn : n.natAbs < 2 ^ b) (hf : ∀ x ∈ f, x.natAbs < 2 ^ a) : ∀ x ∈ pScl n f, x.natAbs < 2 ^ (b + a) := fun x hx => by
  have hx := trim_mem hx
  obtain ⟨y, hy, rfl⟩ := List.mem_map.mp hx
  exact mul_lt_pow hn (hf y hy)
theorem pScl_len (n : Int) (f : List Int) : (pScl n f).length ≤ f.length := Nat.le_trans (trim_len_le _) (by simp)
/-- the leading coefficient is 1 -/
def Monic (g : List Int) : Prop := 0 < g.length ∧ nth g (g.length - 1) = 1
theorem Monic.trm {g : List Int} (h : Monic g) : Trm g := by
  rcases List.eq_nil_or_concat g with e | ⟨ys, a, e⟩
  · subst e; exact absurd h.1 (by simp)
  · have e : g = ys ++ [a] := by simpa using e
    subst e
    refine trim_snoc ?_ ys
    have := h.2
    rw [nth_app2 (by simp)] at this
    simp at this
    omega
/-- a polynomial times a monic one is of at least its degree -/
theorem div_zero {q r g : List Int} (hg : Monic g) (hq : Trm q) (hr : r.length < g.length) (h : pc q * pc g + pc r = 0) : q = [] := by
  refine Classical.byContradiction fun q0 => ?_
  have lq : 0 < q.length := List.length_pos_iff.mpr q0
  have := congrArg (fun a => a.c ((q.length - 1) + (g.length - 1))) h
  simp only [add_c, zero_c, mul_c] at this
  rw [mulc_top (a := (pc q).c) (b := (pc g).c) (fun k hk => nth_ge (by omega)) fun k hk => nth_ge (by omega), pc_c, pc_c, pc_c, hg.2, nth_ge (xs := r) (by omega)] at this
  have l := hq.last q0
  omega
theorem div_unique {q r q' r' g : List Int} (hg : Monic g) (hq : Trm q) (hq' : Trm q') (hr : Trm r) (hr' : Trm r') (l : r.length < g.length) (l' : r'.length < g.length) (h : pc q * pc g + pc r = pc q' * pc g + pc r') : q = q' ∧ r = r' := by
  have e : pc (pSub q q') * pc g + pc (pSub r r') = 0 := by rw [pc_pSub, pc_pSub]; grind
  have lz : (pSub r r').length < g.length := by
    have h1 := pAdd_len r (pScl (-1) r')
    have h2 := pScl_len (-1) r'
    unfold pSub
    omega
  have z := div_zero hg (trm_pSub q q') lz e
  have e1 : pc q = pc q' := by
    have := pc_pSub q q'
    rw [z, pc_nil] at this
    grind
  have e2 : pc r = pc r' := by
    rw [e1] at h
    grind
  exact ⟨Trm.eq hq hq' e1, Trm.eq hr hr' e2⟩
theorem pc_neg (f : List Int) : pc (f.map fun a => -a) = -pc f := ext fun k => by
  rw [neg_c, pc_c, pc_c, nth_map0 (by simp)]
end Tr

namespace Tr
open PySem L2 RZ
def top (i : Nat) : Stmt := PySem.Challenge.pw_branchdepth_k75_texts_of_no_polynomial.main.body.getD i (.Pass ⟨0, 0, 0, 0⟩)
def csX (n : String) : Bool := n == "NoText"
def tbC : SubT := [("NoText", "BranchError", true), ("NoText", "NoPolynomial", false), ("NoText", "NoPrime", false), ("NoText", "NoRow", false), ("NoText", "NoSize", false), ("NoText", "NoText", true), ("NoText", "NoTower", false), ("NoText", "NotPlain", false), ("NoText", "TooDeep", false)]
def tbT : SubT := [("NoText", "ValueError", true)]
noncomputable def lc_is_plain_number_1 : SE := (sLc [] [] [1] (iTxt (sVar 0)) (sGName 1) sYes (sApp2 (opInS false) (sVar 1) (sCon (.str "0123456789"))))
noncomputable def b_is_plain_number : SS := (sSeq (sIf (sOr (sNot (sTest (sChain (fun i j => decide (i ≤ j)) (fun i j => decide (i ≤ j)) (sCon (.int 1)) (sApp opLen (sCons (sVar 0) sNil)) (sCon (.int 60))))) (sAnd (sTest (sApp2 opEq (sApp2 opIdx (sVar 0) (sCon (.int 0))) (sCon (.str "0")))) (sTest (sApp2 opNe (sVar 0) (sCon (.str "0")))))) (sRet (sCon (.bl false))) sSkip)
    (sRet (sApp opAll (sCons lc_is_plain_number_1 sNil))))
noncomputable def m_is_plain_number : List D → Option Val := fnSem 1 2 b_is_plain_number
theorem L_is_plain_number : ∀ ds, (m_is_plain_number ds).isSome = true → ds.length = 1 := fun _ h => fnSem_len h
noncomputable def b_letter_text : SS := (sSeq (sIf (sTest (sApp2 opEq (sVar 0) (sCon (.int 1)))) (sRet (sCon (.str "x"))) sSkip)
    (sRet (sApp2 opAdd (sCon (.str "x^")) (sApp opStrI (sCons (sVar 0) sNil)))))
noncomputable def m_letter_text : List D → Option Val := fnSem 1 1 b_letter_text
theorem L_letter_text : ∀ ds, (m_letter_text ds).isSome = true → ds.length = 1 := fun _ h => fnSem_len h
noncomputable def b_u_law_bag : SS := (sSeq (sSet 2 (sCon (.int 0)))
    (sSeq (sIf (sTest (sApp2 opLt (sVar 1) (sApp opLen (sCons (sVar 0) sNil)))) (sSet 2 (sApp2 opIdx (sVar 0) (sVar 1))) sSkip)
    (sSeq (sSet 3 (sCon (.int 0)))
    (sSeq (sIf (sTest (sApp2 opGe (sApp opAbs (sCons (sVar 2) sNil)) (sApp2 opPow (sCon (.int 10)) (sCon (.int 18))))) (sSet 3 (sApp opAbs (sCons (sVar 2) sNil))) sSkip)
    (sRet (sApp opLst (sCons (sMove 3) (sCons (sApp2 opAdd (sApp2 opMod (sApp2 opAdd (sApp2 opAdd (sVar 2) (sApp2 opMul (sCon (.int 7919)) (sVar 1))) (sCon (.int 13))) (sCon (.int 2147483629))) (sCon (.int 1))) sNil))))))))
noncomputable def m_u_law_bag : List D → Option Val := fnSem 2 4 b_u_law_bag
theorem L_u_law_bag : ∀ ds, (m_u_law_bag ds).isSome = true → ds.length = 2 := fun _ h => fnSem_len h
noncomputable def b_u_law_take : SS := (sSeq (sIf (sTest (sApp2 opGt (sApp2 opIdx (sVar 0) (sCon (.int 0))) (sCon (.int 0)))) (sSeq (sSet 2 (sApp2 opMod (sApp2 opIdx (sVar 0) (sCon (.int 0))) (sVar 1)))
    (sSeq (sAsg (sGSub 0 (sCon (.int 0))) (sApp2 opDiv (sApp2 opIdx (sVar 0) (sCon (.int 0))) (sVar 1)))
    (sRet (sMove 2)))) sSkip)
    (sSeq (sAsg (sGSub 0 (sCon (.int 1))) (sApp2 opMod (sApp2 opAdd (sApp2 opMul (sApp2 opIdx (sVar 0) (sCon (.int 1))) (sCon (.int 48271))) (sCon (.int 11))) (sCon (.int 2147483647))))
    (sRet (sApp2 opMod (sApp2 opMod (sApp2 opMul (sApp2 opDiv (sApp2 opIdx (sVar 0) (sCon (.int 1))) (sCon (.int 8))) (sCon (.int 69621))) (sCon (.int 2147483629))) (sVar 1)))))
noncomputable def m_u_law_take : List D → Option (Val × D) := fnSemIO 2 3 b_u_law_take
theorem L_u_law_take : ∀ ds, (m_u_law_take ds).isSome = true → ds.length = 2 := fun _ h => fnSemIO_len h
noncomputable def w_u_law_written_1 : SS := (sSeq (sSet 3 (sApp2 opIdx (sVar 0) (sVar 2)))
    (sSeq (sSet 4 (sApp2 opIdx (sApp opLst (sCons (sCon (.str "1")) (sCons (sCon (.str "x")) (sCons (sApp2 opAdd (sCon (.str "x^")) (sApp opStrI (sCons (sVar 2) sNil))) sNil)))) (sApp opMin2 (sCons (sVar 2) (sCons (sCon (.int 2)) sNil)))))
    (sSeq (sIf (sOr (sTest (sApp2 opNe (sApp opAbs (sCons (sVar 3) sNil)) (sCon (.int 1)))) (sTest (sApp2 opEq (sVar 2) (sCon (.int 0))))) (sSet 4 (sApp2 opIdx (sApp opLst (sCons (sApp2 opAdd (sApp2 opAdd (sApp opStrI (sCons (sApp opAbs (sCons (sVar 3) sNil)) sNil)) (sCon (.str "*"))) (sVar 4)) (sCons (sApp opStrI (sCons (sApp opAbs (sCons (sVar 3) sNil)) sNil)) sNil))) (sApp opInt (sCons (sApp2 opEq (sVar 2) (sCon (.int 0))) sNil)))) sSkip)
    (sIf (sAnd (sTest (sApp2 opNe (sVar 3) (sCon (.int 0)))) (sTest (sApp2 opEq (sVar 1) (sCon (.str ""))))) (sSet 1 (sApp2 opAdd (sApp2 opIdx (sApp opLst (sCons (sCon (.str "")) (sCons (sCon (.str "-")) sNil))) (sApp opInt (sCons (sApp2 opLt (sVar 3) (sCon (.int 0))) sNil))) (sVar 4))) (sIf (sTest (sApp2 opNe (sVar 3) (sCon (.int 0)))) (sSet 1 (sApp2 opAdd (sApp2 opAdd (sVar 1) (sApp2 opIdx (sApp opLst (sCons (sCon (.str " + ")) (sCons (sCon (.str " - ")) sNil))) (sApp opInt (sCons (sApp2 opLt (sVar 3) (sCon (.int 0))) sNil)))) (sVar 4))) sSkip)))))
noncomputable def lp_u_law_written_1 : SS := (sFor (iRange3 (sCons (sApp2 opSub (sApp opLen (sCons (sVar 0) sNil)) (sCon (.int 1))) (sCons (sApp1 opNeg (sCon (.int 1))) (sCons (sApp1 opNeg (sCon (.int 1))) sNil)))) (sGName 2) w_u_law_written_1)
noncomputable def b_u_law_written : SS := (sSeq (sSet 1 (sCon (.str "")))
    (sSeq lp_u_law_written_1
    (sSeq (sIf (sTest (sApp2 opEq (sVar 1) (sCon (.str "")))) (sRet (sCon (.str "0"))) sSkip)
    (sRet (sMove 1)))))
noncomputable def m_u_law_written : List D → Option Val := fnSem 1 5 b_u_law_written
theorem L_u_law_written : ∀ ds, (m_u_law_written ds).isSome = true → ds.length = 1 := fun _ h => fnSem_len h
noncomputable def lc_u_law_value_1 : SE := (sLc [] [] [1] (iTxt (sVar 0)) (sGName 1) (sTest (sApp2 (opInS true) (sVar 1) (sCon (.str "0123456789")))) (sVar 1))
noncomputable def b_u_law_value : SS := (sSeq (sIf (sOr (sTest (sApp2 opEq (sVar 0) (sCon (.str "")))) (sOr (sTest (sApp2 opGt (sApp opLen (sCons (sVar 0) sNil)) (sCon (.int 60)))) (sTest (sApp2 opNe lc_u_law_value_1 (sApp opLst sNil))))) (sRet (sCon .non)) sSkip)
    (sSeq (sIf (sAnd (sTest (sApp2 opEq (sApp2 opIdx (sVar 0) (sCon (.int 0))) (sCon (.str "0")))) (sTest (sApp2 opNe (sVar 0) (sCon (.str "0"))))) (sRet (sCon .non)) sSkip)
    (sRet (sApp opIntS (sCons (sVar 0) sNil)))))
noncomputable def m_u_law_value : List D → Option Val := fnSem 1 2 b_u_law_value
theorem L_u_law_value : ∀ ds, (m_u_law_value ds).isSome = true → ds.length = 1 := fun _ h => fnSem_len h
noncomputable def b_term_text : SS := (sSeq (sIf (sTest (sApp2 opEq (sVar 1) (sCon (.int 0)))) (sRet (sApp opStrI (sCons (sVar 0) sNil))) sSkip)
    (sSeq (sIf (sTest (sApp2 opEq (sVar 0) (sCon (.int 1)))) (sRet (sApp (opFn m_letter_text) (sCons (sVar 1) sNil))) sSkip)
    (sRet (sApp2 opAdd (sApp2 opAdd (sApp opStrI (sCons (sVar 0) sNil)) (sCon (.str "*"))) (sApp (opFn m_letter_text) (sCons (sVar 1) sNil))))))
noncomputable def m_term_text : List D → Option Val := fnSem 2 2 b_term_text
theorem L_term_text : ∀ ds, (m_term_text ds).isSome = true → ds.length = 2 := fun _ h => fnSem_len h
noncomputable def b_read_power : SS := (sSeq (sIf (sTest (sApp2 opEq (sVar 0) (sCon (.str "x")))) (sRet (sCon (.int 1))) sSkip)
    (sSeq (sIf (sOr (sTest (sApp2 opNe (sCutS (sVar 0) sONone (sOSome (sCon (.int 2)))) (sCon (.str "x^")))) (sOr (sNot (sTest (sApp (opFn m_is_plain_number) (sCons (sCutS (sVar 0) (sOSome (sCon (.int 2))) sONone) sNil)))) (sTest (sApp2 opGt (sApp opIntS (sCons (sCutS (sVar 0) (sOSome (sCon (.int 2))) sONone) sNil)) (sCon (.int 12)))))) sNever sSkip)
    (sRet (sApp opIntS (sCons (sCutS (sVar 0) (sOSome (sCon (.int 2))) sONone) sNil)))))
noncomputable def m_read_power : List D → Option Val := fnSem 1 1 b_read_power
theorem L_read_power : ∀ ds, (m_read_power ds).isSome = true → ds.length = 1 := fun _ h => fnSem_len h
noncomputable def xb_read_power : XE := (xSeq xNo (sIf (sTest (sApp2 opEq (sVar 0) (sCon (.str "x")))) (sRet (sCon (.int 1))) sSkip)
    (xSeq (xIf (sOr (sTest (sApp2 opNe (sCutS (sVar 0) sONone (sOSome (sCon (.int 2)))) (sCon (.str "x^")))) (sOr (sNot (sTest (sApp (opFn m_is_plain_number) (sCons (sCutS (sVar 0) (sOSome (sCon (.int 2))) sONone) sNil)))) (sTest (sApp2 opGt (sApp opIntS (sCons (sCutS (sVar 0) (sOSome (sCon (.int 2))) sONone) sNil)) (sCon (.int 12)))))) (xRaise "NoText") xNo) (sIf (sOr (sTest (sApp2 opNe (sCutS (sVar 0) sONone (sOSome (sCon (.int 2)))) (sCon (.str "x^")))) (sOr (sNot (sTest (sApp (opFn m_is_plain_number) (sCons (sCutS (sVar 0) (sOSome (sCon (.int 2))) sONone) sNil)))) (sTest (sApp2 opGt (sApp opIntS (sCons (sCutS (sVar 0) (sOSome (sCon (.int 2))) sONone) sNil)) (sCon (.int 12)))))) sNever sSkip)
    xNo))
noncomputable def mx_read_power : List D → Option String := fnSemX 1 1 xb_read_power
theorem LX_read_power : ∀ ds, (mx_read_power ds).isSome = true → ds.length = 1 := fun _ h => fnSemX_len h
noncomputable def b_u_law_number : SS := (sSeq (sSet 1 (sCallIO 0 m_u_law_take (sCons (sCon (.int 8)) sNil)))
    (sSeq (sSet 2 (sApp2 opSub (sCon (.int 1)) (sApp2 opMul (sCon (.int 2)) (sCallIO 0 m_u_law_take (sCons (sCon (.int 2)) sNil)))))
    (sSeq (sIf (sTest (sApp2 opLt (sVar 1) (sCon (.int 2)))) (sRet (sCon (.int 0))) sSkip)
    (sSeq (sIf (sTest (sApp2 opEq (sVar 1) (sCon (.int 2)))) (sRet (sMove 2)) sSkip)
    (sSeq (sIf (sTest (sApp2 opEq (sVar 1) (sCon (.int 3)))) (sRet (sApp2 opMul (sVar 2) (sCallIO 0 m_u_law_take (sCons (sApp2 opPow (sCon (.int 10)) (sCon (.int 60))) sNil)))) sSkip)
    (sRet (sApp2 opMul (sVar 2) (sCallIO 0 m_u_law_take (sCons (sApp2 opIdx (sApp opLst (sCons (sCon (.int 10)) (sCons (sCon (.int 1000)) (sCons (sApp2 opPow (sCon (.int 10)) (sCon (.int 9))) sNil)))) (sApp2 opMod (sVar 1) (sCon (.int 3)))) sNil)))))))))
noncomputable def m_u_law_number : List D → Option (Val × D) := fnSemIO 1 3 b_u_law_number
theorem L_u_law_number : ∀ ds, (m_u_law_number ds).isSome = true → ds.length = 1 := fun _ h => fnSemIO_len h
noncomputable def b_u_law_term : SS := (sSeq (sAsg (sGTup (sGCons (sGName 1) (sGCons (sGName 2) (sGCons (sGName 3) sGNil)))) (sApp2 opPart (sVar 0) (sCon (.str "*"))))
    (sSeq (sIf (sAnd (sTest (sApp2 opEq (sVar 2) (sCon (.str "")))) (sTest (sApp2 (opInS true) (sCon (.str "x")) (sVar 0)))) (sRet (sIfE (sTest (sApp2 opIsN (sApp (opFn m_u_law_value) (sCons (sVar 0) sNil)) (sCon .non))) (sCon .non) (sApp opTup (sCons (sApp (opFn m_u_law_value) (sCons (sVar 0) sNil)) (sCons (sCon (.int 0)) sNil))))) sSkip)
    (sSeq (sIf (sTest (sApp2 opEq (sVar 2) (sCon (.str "")))) (sPar 1 3 (sCons (sCon (.str "1")) (sCons (sMove 0) sNil))) sSkip)
    (sSeq (sSet 4 (sApp (opFn m_u_law_value) (sCons (sVar 1) sNil)))
    (sSeq (sSet 5 (sApp (opFn m_u_law_value) (sCons (sCutS (sVar 3) (sOSome (sCon (.int 2))) sONone) sNil)))
    (sSeq (sIf (sTest (sApp2 opEq (sVar 3) (sCon (.str "x")))) (sSet 5 (sCon (.int 1))) (sIf (sTest (sApp2 opNe (sCutS (sVar 3) sONone (sOSome (sCon (.int 2)))) (sCon (.str "x^")))) (sSet 5 (sCon .non)) sSkip))
    (sSeq (sIf (sOr (sTest (sApp2 opIsN (sVar 4) (sCon .non))) (sOr (sTest (sApp2 opIsN (sVar 5) (sCon .non))) (sTest (sApp2 opGt (sVar 5) (sCon (.int 12)))))) (sRet (sCon .non)) sSkip)
    (sRet (sApp opTup (sCons (sMove 4) (sCons (sMove 5) sNil)))))))))))
noncomputable def m_u_law_term : List D → Option Val := fnSem 1 6 b_u_law_term
theorem L_u_law_term : ∀ ds, (m_u_law_term ds).isSome = true → ds.length = 1 := fun _ h => fnSem_len h
noncomputable def b_u_law_changed : SS := (sSeq (sSet 2 (sCon (.str " !\"#$&'()*+,-./0123456789:;<=>?@ABCDEFGHIJKLMNOPQRSTUVWXYZ[\\]^_`abcdefghijklmnopqrstuvwxyz{|}~")))
    (sSeq (sSet 3 (sApp2 opIdx (sVar 2) (sCallIO 1 m_u_law_take (sCons (sApp opLen (sCons (sVar 2) sNil)) sNil))))
    (sSeq (sIf (sTest (sApp2 opGt (sCallIO 1 m_u_law_take (sCons (sCon (.int 4)) sNil)) (sCon (.int 0)))) (sSet 3 (sApp2 opIdx (sCon (.str " +-*^x0123")) (sCallIO 1 m_u_law_take (sCons (sCon (.int 10)) sNil)))) sSkip)
    (sSeq (sSet 4 (sCallIO 1 m_u_law_take (sCons (sApp opLen (sCons (sVar 0) sNil)) sNil)))
    (sSeq (sSet 5 (sCallIO 1 m_u_law_take (sCons (sCon (.int 8)) sNil)))
    (sSeq (sIf (sTest (sApp2 opLt (sVar 5) (sCon (.int 3)))) (sRet (sApp2 opIdx (sApp opLst (sCons (sApp2 opAdd (sApp2 opAdd (sCutS (sVar 0) sONone (sOSome (sVar 4))) (sVar 3)) (sCutS (sVar 0) (sOSome (sApp2 opAdd (sVar 4) (sCon (.int 1)))) sONone)) (sCons (sApp2 opAdd (sCutS (sVar 0) sONone (sOSome (sVar 4))) (sCutS (sVar 0) (sOSome (sApp2 opAdd (sVar 4) (sCon (.int 1)))) sONone)) (sCons (sApp2 opAdd (sApp2 opAdd (sCutS (sVar 0) sONone (sOSome (sVar 4))) (sVar 3)) (sCutS (sVar 0) (sOSome (sVar 4)) sONone)) sNil)))) (sVar 5))) sSkip)
    (sSeq (sSet 6 (sApp2 opSplit (sVar 0) (sCon (.str " "))))
    (sSeq (sSet 7 (sCallIO 1 m_u_law_take (sCons (sApp opLen (sCons (sVar 6) sNil)) sNil)))
    (sSeq (sIf (sTest (sApp2 opEq (sVar 5) (sCon (.int 3)))) (sMeth hIns 6 (sCons (sVar 7) (sCons (sApp2 opIdx (sVar 6) (sVar 7)) sNil))) (sIf (sTest (sApp2 opEq (sVar 5) (sCon (.int 4)))) (sMeth hPopAt 6 (sCons (sVar 7) sNil)) (sIf (sTest (sApp2 opEq (sVar 5) (sCon (.int 5)))) (sAsg (sGSub 6 (sVar 7)) (sApp2 opIdx (sApp opLst (sCons (sCon (.str "x")) (sCons (sCon (.str "0")) (sCons (sCon (.str "+")) (sCons (sCon (.str "-")) (sCons (sCon (.str "x^2")) (sCons (sCon (.str "1*x")) (sCons (sCon (.str "0*x")) (sCons (sCon (.str "x^1")) (sCons (sCon (.str "3")) (sCons (sCon (.str "x^13")) (sCons (sCon (.str "x^0")) (sCons (sCon (.str "")) sNil))))))))))))) (sCallIO 1 m_u_law_take (sCons (sCon (.int 12)) sNil)))) (sIf (sTest (sApp2 opEq (sVar 5) (sCon (.int 6)))) (sMeth hRev 6 sNil) (sSwap 6 (sCon (.int 0)) (sVar 7) (sVar 7) (sCon (.int 0)))))))
    (sRet (sApp2 opJoin (sCon (.str " ")) (sVar 6))))))))))))
noncomputable def m_u_law_changed : List D → Option (Val × D) := fnSemIO2 2 8 b_u_law_changed
theorem L_u_law_changed : ∀ ds, (m_u_law_changed ds).isSome = true → ds.length = 2 := fun _ h => fnSemIO2_len h
noncomputable def w_written_1 : SS := (sIf (sTest (sApp2 opNe (sApp2 opIdx (sVar 0) (sVar 2)) (sCon (.int 0)))) (sSeq (sSet 3 (sApp2 opIdx (sApp opLst (sCons (sCon (.str " + ")) (sCons (sCon (.str " - ")) sNil))) (sApp opInt (sCons (sApp2 opLt (sApp2 opIdx (sVar 0) (sVar 2)) (sCon (.int 0))) sNil))))
    (sSeq (sIf (sTest (sApp2 opEq (sVar 1) (sCon (.str "")))) (sSet 3 (sApp2 opIdx (sApp opLst (sCons (sCon (.str "")) (sCons (sCon (.str "-")) sNil))) (sApp opInt (sCons (sApp2 opLt (sApp2 opIdx (sVar 0) (sVar 2)) (sCon (.int 0))) sNil)))) sSkip)
    (sSet 1 (sApp2 opAdd (sApp2 opAdd (sVar 1) (sVar 3)) (sApp (opFn m_term_text) (sCons (sApp opAbs (sCons (sApp2 opIdx (sVar 0) (sVar 2)) sNil)) (sCons (sVar 2) sNil))))))) sSkip)
noncomputable def lp_written_1 : SS := (sFor (iRange3 (sCons (sApp2 opSub (sApp opLen (sCons (sVar 0) sNil)) (sCon (.int 1))) (sCons (sApp1 opNeg (sCon (.int 1))) (sCons (sApp1 opNeg (sCon (.int 1))) sNil)))) (sGName 2) w_written_1)
noncomputable def b_written : SS := (sSeq (sSet 1 (sCon (.str "")))
    (sSeq lp_written_1
    (sSeq (sIf (sTest (sApp2 opEq (sVar 1) (sCon (.str "")))) (sRet (sCon (.str "0"))) sSkip)
    (sRet (sMove 1)))))
noncomputable def m_written : List D → Option Val := fnSem 1 4 b_written
theorem L_written : ∀ ds, (m_written ds).isSome = true → ds.length = 1 := fun _ h => fnSem_len h
noncomputable def b_read_term : SS := (sSeq (sIf (sTest (sApp (opFn m_is_plain_number) (sCons (sVar 0) sNil))) (sRet (sApp opTup (sCons (sApp opIntS (sCons (sVar 0) sNil)) (sCons (sCon (.int 0)) sNil)))) sSkip)
    (sSeq (sAsg (sGTup (sGCons (sGName 1) (sGCons (sGName 2) (sGCons (sGName 3) sGNil)))) (sApp2 opPart (sVar 0) (sCon (.str "*"))))
    (sSeq (sIf (sTest (sApp2 opEq (sVar 2) (sCon (.str "")))) (sRet (sApp opTup (sCons (sCon (.int 1)) (sCons (sApp (opFn m_read_power) (sCons (sVar 0) sNil)) sNil)))) sSkip)
    (sSeq (sIf (sNot (sTest (sApp (opFn m_is_plain_number) (sCons (sVar 1) sNil)))) sNever sSkip)
    (sRet (sApp opTup (sCons (sApp opIntS (sCons (sVar 1) sNil)) (sCons (sApp (opFn m_read_power) (sCons (sVar 3) sNil)) sNil))))))))
noncomputable def m_read_term : List D → Option Val := fnSem 1 4 b_read_term
theorem L_read_term : ∀ ds, (m_read_term ds).isSome = true → ds.length = 1 := fun _ h => fnSem_len h
noncomputable def xb_read_term : XE := (xSeq xNo (sIf (sTest (sApp (opFn m_is_plain_number) (sCons (sVar 0) sNil))) (sRet (sApp opTup (sCons (sApp opIntS (sCons (sVar 0) sNil)) (sCons (sCon (.int 0)) sNil)))) sSkip)
    (xSeq xNo (sAsg (sGTup (sGCons (sGName 1) (sGCons (sGName 2) (sGCons (sGName 3) sGNil)))) (sApp2 opPart (sVar 0) (sCon (.str "*"))))
    (xSeq (xIf (sTest (sApp2 opEq (sVar 2) (sCon (.str "")))) (xOf (xApp (xCons xNo (sCon (.int 1)) (xCons (xCall mx_read_power (sCons (sVar 0) sNil) xNo) (sApp (opFn m_read_power) (sCons (sVar 0) sNil)) xNo)))) xNo) (sIf (sTest (sApp2 opEq (sVar 2) (sCon (.str "")))) (sRet (sApp opTup (sCons (sCon (.int 1)) (sCons (sApp (opFn m_read_power) (sCons (sVar 0) sNil)) sNil)))) sSkip)
    (xSeq (xIf (sNot (sTest (sApp (opFn m_is_plain_number) (sCons (sVar 1) sNil)))) (xRaise "NoText") xNo) (sIf (sNot (sTest (sApp (opFn m_is_plain_number) (sCons (sVar 1) sNil)))) sNever sSkip)
    (xOf (xApp (xCons xNo (sApp opIntS (sCons (sVar 1) sNil)) (xCons (xCall mx_read_power (sCons (sVar 3) sNil) xNo) (sApp (opFn m_read_power) (sCons (sVar 3) sNil)) xNo))))))))
noncomputable def mx_read_term : List D → Option String := fnSemX 1 4 xb_read_term
theorem LX_read_term : ∀ ds, (mx_read_term ds).isSome = true → ds.length = 1 := fun _ h => fnSemX_len h
noncomputable def lc_u_law_polynomial_1 : SE := (sLc [] [0] [2] (iRange1 (sCons (sCallIO 0 m_u_law_take (sCons (sCon (.int 14)) sNil)) sNil)) (sGName 2) sYes (sCallIO 0 m_u_law_number sNil))
noncomputable def w_u_law_polynomial_1 : SS := (sDrop (sPop 1))
noncomputable def lp_u_law_polynomial_1 : SS := (sWhile (sAnd (sTest (sApp2 opNe (sVar 1) (sApp opLst sNil))) (sTest (sApp2 opEq (sApp2 opIdx (sVar 1) (sApp1 opNeg (sCon (.int 1)))) (sCon (.int 0))))) w_u_law_polynomial_1)
noncomputable def b_u_law_polynomial : SS := (sSeq (sSet 1 lc_u_law_polynomial_1)
    (sSeq lp_u_law_polynomial_1
    (sRet (sMove 1))))
noncomputable def m_u_law_polynomial : List D → Option (Val × D) := fnSemIO 1 3 b_u_law_polynomial
theorem L_u_law_polynomial : ∀ ds, (m_u_law_polynomial ds).isSome = true → ds.length = 1 := fun _ h => fnSemIO_len h
noncomputable def lc_u_law_due_1 : SE := (sLc [] [] [3] (iRange1 (sCons (sCon (.int 13)) sNil)) (sGName 3) sYes (sCon (.int 0)))
noncomputable def w_u_law_due_1 : SS := (sSeq (sSet 4 (sApp (opFn m_u_law_term) (sCons (sApp2 opIdx (sVar 1) (sApp2 opAdd (sVar 3) (sCon (.int 1)))) sNil)))
    (sSeq (sIf (sOr (sTest (sApp2 (opIn true) (sApp2 opIdx (sVar 1) (sVar 3)) (sApp opLst (sCons (sCon (.str "+")) (sCons (sCon (.str "-")) sNil))))) (sTest (sApp2 opIsN (sVar 4) (sCon .non)))) (sRet (sCon .non)) sSkip)
    (sAugS 2 (fun i j => i + j) (sApp2 opIdx (sVar 4) (sCon (.int 1))) (sApp2 opMul (sApp2 opIdx (sVar 4) (sCon (.int 0))) (sApp2 opIdx (sApp opLst (sCons (sApp1 opNeg (sCon (.int 1))) (sCons (sCon (.int 1)) sNil))) (sApp opInt (sCons (sApp2 opEq (sApp2 opIdx (sVar 1) (sVar 3)) (sCon (.str "+"))) sNil)))))))
noncomputable def lp_u_law_due_1 : SS := (sFor (iRange3 (sCons (sCon (.int 0)) (sCons (sApp opLen (sCons (sVar 1) sNil)) (sCons (sCon (.int 2)) sNil)))) (sGName 3) w_u_law_due_1)
noncomputable def w_u_law_due_2 : SS := (sDrop (sPop 2))
noncomputable def lp_u_law_due_2 : SS := (sWhile (sAnd (sTest (sApp2 opNe (sVar 2) (sApp opLst sNil))) (sTest (sApp2 opEq (sApp2 opIdx (sVar 2) (sApp1 opNeg (sCon (.int 1)))) (sCon (.int 0))))) w_u_law_due_2)
noncomputable def b_u_law_due : SS := (sSeq (sSet 1 (sApp2 opSplit (sApp2 opAdd (sCon (.str "+ ")) (sVar 0)) (sCon (.str " "))))
    (sSeq (sIf (sTest (sApp2 opEq (sCutS (sVar 0) sONone (sOSome (sCon (.int 1)))) (sCon (.str "-")))) (sSet 1 (sApp2 opSplit (sApp2 opAdd (sCon (.str "- ")) (sCutS (sVar 0) (sOSome (sCon (.int 1))) sONone)) (sCon (.str " ")))) sSkip)
    (sSeq (sSet 2 lc_u_law_due_1)
    (sSeq (sIf (sTest (sApp2 opEq (sApp2 opMod (sApp opLen (sCons (sVar 1) sNil)) (sCon (.int 2))) (sCon (.int 1)))) (sRet (sCon .non)) sSkip)
    (sSeq lp_u_law_due_1
    (sSeq lp_u_law_due_2
    (sSeq (sIf (sTest (sApp2 opNe (sApp (opFn m_u_law_written) (sCons (sVar 2) sNil)) (sVar 0))) (sRet (sCon .non)) sSkip)
    (sRet (sMove 2)))))))))
noncomputable def m_u_law_due : List D → Option Val := fnSem 1 5 b_u_law_due
theorem L_u_law_due : ∀ ds, (m_u_law_due ds).isSome = true → ds.length = 1 := fun _ h => fnSem_len h
noncomputable def w_read_terms_1 : SS := (sSeq (sIf (sOr (sTest (sApp2 (opIn true) (sApp2 opIdx (sVar 0) (sVar 6)) (sApp opTup (sCons (sCon (.str "+")) (sCons (sCon (.str "-")) sNil))))) (sTest (sApp2 opEq (sApp2 opAdd (sVar 6) (sCon (.int 1))) (sApp opLen (sCons (sVar 0) sNil))))) sNever sSkip)
    (sSeq (sAsg (sGTup (sGCons (sGName 3) (sGCons (sGName 4) sGNil))) (sApp (opFn m_read_term) (sCons (sApp2 opIdx (sVar 0) (sApp2 opAdd (sVar 6) (sCon (.int 1)))) sNil)))
    (sSeq (sIf (sTest (sApp2 opEq (sApp2 opIdx (sVar 0) (sVar 6)) (sCon (.str "-")))) (sSet 3 (sApp2 opSub (sCon (.int 0)) (sVar 3))) sSkip)
    (sApnd 5 (sApp opTup (sCons (sMove 3) (sCons (sMove 4) sNil)))))))
noncomputable def xw_read_terms_1 : XE := (xSeq (xIf (sOr (sTest (sApp2 (opIn true) (sApp2 opIdx (sVar 0) (sVar 6)) (sApp opTup (sCons (sCon (.str "+")) (sCons (sCon (.str "-")) sNil))))) (sTest (sApp2 opEq (sApp2 opAdd (sVar 6) (sCon (.int 1))) (sApp opLen (sCons (sVar 0) sNil))))) (xRaise "NoText") xNo) (sIf (sOr (sTest (sApp2 (opIn true) (sApp2 opIdx (sVar 0) (sVar 6)) (sApp opTup (sCons (sCon (.str "+")) (sCons (sCon (.str "-")) sNil))))) (sTest (sApp2 opEq (sApp2 opAdd (sVar 6) (sCon (.int 1))) (sApp opLen (sCons (sVar 0) sNil))))) sNever sSkip)
    (xSeq (xOf (xCall mx_read_term (sCons (sApp2 opIdx (sVar 0) (sApp2 opAdd (sVar 6) (sCon (.int 1)))) sNil) xNo)) (sAsg (sGTup (sGCons (sGName 3) (sGCons (sGName 4) sGNil))) (sApp (opFn m_read_term) (sCons (sApp2 opIdx (sVar 0) (sApp2 opAdd (sVar 6) (sCon (.int 1)))) sNil)))
    (xSeq xNo (sIf (sTest (sApp2 opEq (sApp2 opIdx (sVar 0) (sVar 6)) (sCon (.str "-")))) (sSet 3 (sApp2 opSub (sCon (.int 0)) (sVar 3))) sSkip)
    xNo)))
noncomputable def lp_read_terms_1 : SS := (sFor (iRange3 (sCons (sCon (.int 1)) (sCons (sApp opLen (sCons (sVar 0) sNil)) (sCons (sCon (.int 2)) sNil)))) (sGName 6) w_read_terms_1)
noncomputable def xlp_read_terms_1 : XE := (xFor xNo (iRange3 (sCons (sCon (.int 1)) (sCons (sApp opLen (sCons (sVar 0) sNil)) (sCons (sCon (.int 2)) sNil)))) (sGName 6) w_read_terms_1 xw_read_terms_1)
noncomputable def b_read_terms : SS := (sSeq (sSet 1 (sCon (.int 1)))
    (sSeq (sSet 2 (sApp2 opIdx (sVar 0) (sCon (.int 0))))
    (sSeq (sIf (sTest (sApp2 opEq (sCutS (sVar 2) sONone (sOSome (sCon (.int 1)))) (sCon (.str "-")))) (sSeq (sSet 1 (sApp1 opNeg (sCon (.int 1))))
    (sSet 2 (sCutS (sVar 2) (sOSome (sCon (.int 1))) sONone))) sSkip)
    (sSeq (sAsg (sGTup (sGCons (sGName 3) (sGCons (sGName 4) sGNil))) (sApp (opFn m_read_term) (sCons (sVar 2) sNil)))
    (sSeq (sSet 5 (sApp opLst (sCons (sApp opTup (sCons (sApp2 opMul (sVar 1) (sVar 3)) (sCons (sMove 4) sNil))) sNil)))
    (sSeq lp_read_terms_1
    (sRet (sMove 5))))))))
noncomputable def m_read_terms : List D → Option Val := fnSem 1 7 b_read_terms
theorem L_read_terms : ∀ ds, (m_read_terms ds).isSome = true → ds.length = 1 := fun _ h => fnSem_len h
noncomputable def xb_read_terms : XE := (xSeq xNo (sSet 1 (sCon (.int 1)))
    (xSeq xNo (sSet 2 (sApp2 opIdx (sVar 0) (sCon (.int 0))))
    (xSeq xNo (sIf (sTest (sApp2 opEq (sCutS (sVar 2) sONone (sOSome (sCon (.int 1)))) (sCon (.str "-")))) (sSeq (sSet 1 (sApp1 opNeg (sCon (.int 1))))
    (sSet 2 (sCutS (sVar 2) (sOSome (sCon (.int 1))) sONone))) sSkip)
    (xSeq (xOf (xCall mx_read_term (sCons (sVar 2) sNil) xNo)) (sAsg (sGTup (sGCons (sGName 3) (sGCons (sGName 4) sGNil))) (sApp (opFn m_read_term) (sCons (sVar 2) sNil)))
    (xSeq xNo (sSet 5 (sApp opLst (sCons (sApp opTup (sCons (sApp2 opMul (sVar 1) (sVar 3)) (sCons (sMove 4) sNil))) sNil)))
    (xSeq xlp_read_terms_1 lp_read_terms_1
    xNo))))))
noncomputable def mx_read_terms : List D → Option String := fnSemX 1 7 xb_read_terms
theorem LX_read_terms : ∀ ds, (mx_read_terms ds).isSome = true → ds.length = 1 := fun _ h => fnSemX_len h
noncomputable def lc_read_polynomial_1 : SE := (sLc [] [] [2] (iRange1 (sCons (sApp2 opAdd (sCon (.int 12)) (sCon (.int 1))) sNil)) (sGName 2) sYes (sCon (.int 0)))
noncomputable def w_read_polynomial_1 : SS := (sAugS 1 (fun i j => i + j) (sVar 4) (sVar 3))
noncomputable def xw_read_polynomial_1 : XE := xNo
noncomputable def lp_read_polynomial_1 : SS := (sFor (iSq (sApp (opFn m_read_terms) (sCons (sApp2 opSplit (sVar 0) (sCon (.str " "))) sNil))) (sGTup (sGCons (sGName 3) (sGCons (sGName 4) sGNil))) w_read_polynomial_1)
noncomputable def xlp_read_polynomial_1 : XE := (xFor (xCall mx_read_terms (sCons (sApp2 opSplit (sVar 0) (sCon (.str " "))) sNil) xNo) (iSq (sApp (opFn m_read_terms) (sCons (sApp2 opSplit (sVar 0) (sCon (.str " "))) sNil))) (sGTup (sGCons (sGName 3) (sGCons (sGName 4) sGNil))) w_read_polynomial_1 xw_read_polynomial_1)
noncomputable def w_read_polynomial_2 : SS := (sDrop (sPop 1))
noncomputable def lp_read_polynomial_2 : SS := (sWhile (sAnd (sTest (sApp2 opNe (sVar 1) (sApp opLst sNil))) (sTest (sApp2 opEq (sApp2 opIdx (sVar 1) (sApp1 opNeg (sCon (.int 1)))) (sCon (.int 0))))) w_read_polynomial_2)
noncomputable def b_read_polynomial : SS := (sSeq (sIf (sNot (sTest (sApp opIsi (sCons (sVar 0) (sCons (sCon (.ty "str")) sNil))))) sNever sSkip)
    (sSeq (sSet 1 lc_read_polynomial_1)
    (sSeq lp_read_polynomial_1
    (sSeq lp_read_polynomial_2
    (sSeq (sIf (sTest (sApp2 opNe (sApp (opFn m_written) (sCons (sVar 1) sNil)) (sVar 0))) sNever sSkip)
    (sRet (sMove 1)))))))
noncomputable def m_read_polynomial : List D → Option Val := fnSem 1 5 b_read_polynomial
theorem L_read_polynomial : ∀ ds, (m_read_polynomial ds).isSome = true → ds.length = 1 := fun _ h => fnSem_len h
noncomputable def xb_read_polynomial : XE := (xSeq (xIf (sNot (sTest (sApp opIsi (sCons (sVar 0) (sCons (sCon (.ty "str")) sNil))))) (xRaise "NoText") xNo) (sIf (sNot (sTest (sApp opIsi (sCons (sVar 0) (sCons (sCon (.ty "str")) sNil))))) sNever sSkip)
    (xSeq xNo (sSet 1 lc_read_polynomial_1)
    (xSeq xlp_read_polynomial_1 lp_read_polynomial_1
    (xSeq xNo lp_read_polynomial_2
    (xSeq (xIf (sTest (sApp2 opNe (sApp (opFn m_written) (sCons (sVar 1) sNil)) (sVar 0))) (xRaise "NoText") xNo) (sIf (sTest (sApp2 opNe (sApp (opFn m_written) (sCons (sVar 1) sNil)) (sVar 0))) sNever sSkip)
    xNo)))))
noncomputable def mx_read_polynomial : List D → Option String := fnSemX 1 5 xb_read_polynomial
theorem LX_read_polynomial : ∀ ds, (mx_read_polynomial ds).isSome = true → ds.length = 1 := fun _ h => fnSemX_len h
noncomputable def bt_u_law_told_1 : SS := (sRet (sApp (opFn m_read_polynomial) (sCons (sVar 0) sNil)))
noncomputable def xt_u_law_told_1 : XE := (xOf (xCall mx_read_polynomial (sCons (sVar 0) sNil) xNo))
noncomputable def st_u_law_told_1 : String → SS := fun c0 => (sSeq (sIf (sTest (sApp (opIsX tbC tbT c0) (sCons (sVar 1) (sCons (sApp opTup (sCons (sCon (.cl "NoPolynomial")) (sCons (sCon (.cl "NoPrime")) (sCons (sCon (.cl "NoRow")) (sCons (sCon (.cl "NoSize")) (sCons (sCon (.cl "NotPlain")) (sCons (sCon (.cl "NoTower")) (sCons (sCon (.cl "TooDeep")) sNil)))))))) sNil)))) (sRet (sCon (.str "other"))) sSkip)
    (sIf (sOr (sNot (sTest (sApp (opIsX tbC tbT c0) (sCons (sVar 1) (sCons (sCon (.cl "NoText")) sNil))))) (sNot (sTest (sApp (opIsX tbC tbT c0) (sCons (sVar 1) (sCons (sCon (.ty "ValueError")) sNil)))))) (sRet (sCon (.str "other"))) sSkip))
noncomputable def b_u_law_told : SS := (sSeq (sTry bt_u_law_told_1 xt_u_law_told_1 1 csX st_u_law_told_1)
    (sRet (sCon .non)))
noncomputable def m_u_law_told : List D → Option Val := fnSem 1 2 b_u_law_told
theorem L_u_law_told : ∀ ds, (m_u_law_told ds).isSome = true → ds.length = 1 := fun _ h => fnSem_len h
noncomputable def w_law_1 : SS := (sSeq (sSet 2 (sApp (opFn m_u_law_written) (sCons (sCallT m_u_law_polynomial (sApp (opFn m_u_law_bag) (sCons (sVar 0) (sCons (sVar 1) sNil))) sNil) sNil)))
    (sSeq (sSet 3 (sCallT2 m_u_law_changed (sVar 2) (sApp (opFn m_u_law_bag) (sCons (sVar 0) (sCons (sApp2 opAdd (sVar 1) (sCon (.int 1))) sNil))) sNil))
    (sIf (sOr (sTest (sApp2 opNe (sApp (opFn m_u_law_told) (sCons (sVar 3) sNil)) (sApp (opFn m_u_law_due) (sCons (sVar 3) sNil)))) (sOr (sTest (sApp2 opNe (sApp (opFn m_u_law_told) (sCons (sVar 2) sNil)) (sApp (opFn m_u_law_due) (sCons (sVar 2) sNil)))) (sTest (sApp2 opIsN (sApp (opFn m_u_law_due) (sCons (sVar 2) sNil)) (sCon .non))))) (sRet (sCon (.bl false))) sSkip)))
noncomputable def lp_law_1 : SS := (sFor (iRange3 (sCons (sCon (.int 0)) (sCons (sApp opMax2 (sCons (sCon (.int 2)) (sCons (sApp opMin2 (sCons (sCon (.int 6)) (sCons (sApp opLen (sCons (sVar 0) sNil)) sNil))) sNil))) (sCons (sCon (.int 2)) sNil)))) (sGName 1) w_law_1)
noncomputable def lc_law_1 : SE := (sLc [] [] [5] (iSq (sVar 4)) (sGName 5) (sTest (sApp2 opNotN (sApp (opFn m_u_law_told) (sCons (sVar 5) sNil)) (sCon .non))) (sVar 5))
noncomputable def b_law : SS := (sSeq lp_law_1
    (sSeq (sSet 4 (sApp opLst (sCons (sCon .non) (sCons (sCon (.int 5)) (sCons (sCon (.bl true)) (sCons (sApp opLst sNil) (sCons (sApp opLst (sCons (sCon (.str "x")) sNil)) (sCons (sCon (.str "")) (sCons (sCon (.str " ")) (sCons (sCon (.str "x ")) (sCons (sCon (.str " x")) (sCons (sCon (.str "x + ")) (sCons (sCon (.str "+ x")) (sCons (sCon (.str "+x")) (sCons (sCon (.str "--x")) (sCons (sCon (.str "- x")) (sCons (sCon (.str "-0")) (sCons (sCon (.str "00")) (sCons (sCon (.str "01")) (sCons (sCon (.str "1*x")) sNil))))))))))))))))))))
    (sSeq (sSet 4 (sApp2 opAdd (sVar 4) (sApp opLst (sCons (sCon (.str "x^1")) (sCons (sCon (.str "x^0")) (sCons (sCon (.str "x^01")) (sCons (sCon (.str "x^13")) (sCons (sCon (.str "0*x")) (sCons (sCon (.str "x + x")) (sCons (sCon (.str "1 + x")) (sCons (sCon (.str "x - 0")) (sCons (sCon (.str "x + -1")) (sCons (sCon (.str "x  + 1")) (sCons (sCon (.str "X")) (sCons (sCon (.str "y")) (sCons (sCon (.str "2x")) sNil))))))))))))))))
    (sSeq (sSet 4 (sApp2 opAdd (sVar 4) (sApp opLst (sCons (sCon (.str "x*2")) (sCons (sCon (.str "2*3")) (sCons (sCon (.str "x^")) (sCons (sCon (.str "x^-1")) (sCons (sCon (.str "x*x")) (sCons (sApp2 opMulS (sCon (.str "1")) (sCon (.int 61))) (sCons (sApp2 opAdd (sCon (.str "x + ")) (sApp2 opMulS (sCon (.str "9")) (sCon (.int 61)))) (sCons (sCon (.str "1.0")) (sCons (sCon (.str "1/2")) (sCons (sCon (.str "x
")) (sCons (sCon (.str "x^2 + x^2")) sNil))))))))))))))
    (sRet (sApp2 opEq lc_law_1 (sApp opLst sNil)))))))
noncomputable def m_law : List D → Option Val := fnSem 1 6 b_law
theorem L_law : ∀ ds, (m_law ds).isSome = true → ds.length = 1 := fun _ h => fnSem_len h
/-! the walks -/
abbrev N_is_plain_number : List Str := ["word", "sign"]
theorem sc_is_plain_number : FnScope N_is_plain_number ["word"] (defScope (top 14)) := ⟨rfl, rfl, rfl, by decide +kernel, rfl, by decide +kernel, by decide +kernel⟩
abbrev N_letter_text : List Str := ["power"]
theorem sc_letter_text : FnScope N_letter_text ["power"] (defScope (top 15)) := ⟨rfl, rfl, rfl, by decide +kernel, rfl, by decide +kernel, by decide +kernel⟩
abbrev N_term_text : List Str := ["number", "power"]
theorem sc_term_text : FnScope N_term_text ["number", "power"] (defScope (top 16)) := ⟨rfl, rfl, rfl, by decide +kernel, rfl, by decide +kernel, by decide +kernel⟩
abbrev N_written : List Str := ["f", "text", "power", "sign"]
theorem sc_written : FnScope N_written ["f"] (defScope (top 17)) := ⟨rfl, rfl, rfl, by decide +kernel, rfl, by decide +kernel, by decide +kernel⟩
abbrev N_read_power : List Str := ["word"]
theorem sc_read_power : FnScope N_read_power ["word"] (defScope (top 18)) := ⟨rfl, rfl, rfl, by decide +kernel, rfl, by decide +kernel, by decide +kernel⟩
abbrev N_read_term : List Str := ["word", "number", "star", "letter"]
theorem sc_read_term : FnScope N_read_term ["word"] (defScope (top 19)) := ⟨rfl, rfl, rfl, by decide +kernel, rfl, by decide +kernel, by decide +kernel⟩
abbrev N_read_terms : List Str := ["words", "sign", "first", "number", "power", "found", "k"]
theorem sc_read_terms : FnScope N_read_terms ["words"] (defScope (top 20)) := ⟨rfl, rfl, rfl, by decide +kernel, rfl, by decide +kernel, by decide +kernel⟩
abbrev N_read_polynomial : List Str := ["text", "found", "k", "number", "power"]
theorem sc_read_polynomial : FnScope N_read_polynomial ["text"] (defScope (top 21)) := ⟨rfl, rfl, rfl, by decide +kernel, rfl, by decide +kernel, by decide +kernel⟩
abbrev N_u_law_bag : List Str := ["_law_script", "_law_at", "_law_cell", "_law_great"]
theorem sc_u_law_bag : FnScope N_u_law_bag ["_law_script", "_law_at"] (defScope (top 23)) := ⟨rfl, rfl, rfl, by decide +kernel, rfl, by decide +kernel, by decide +kernel⟩
abbrev N_u_law_take : List Str := ["_law_bag_here", "_law_many", "_law_digit"]
theorem sc_u_law_take : FnScope N_u_law_take ["_law_bag_here", "_law_many"] (defScope (top 24)) := ⟨rfl, rfl, rfl, by decide +kernel, rfl, by decide +kernel, by decide +kernel⟩
abbrev N_u_law_number : List Str := ["_law_bag_here", "_law_way", "_law_sign"]
theorem sc_u_law_number : FnScope N_u_law_number ["_law_bag_here"] (defScope (top 25)) := ⟨rfl, rfl, rfl, by decide +kernel, rfl, by decide +kernel, by decide +kernel⟩
abbrev N_u_law_polynomial : List Str := ["_law_bag_here", "_law_found", "_law_k"]
theorem sc_u_law_polynomial : FnScope N_u_law_polynomial ["_law_bag_here"] (defScope (top 26)) := ⟨rfl, rfl, rfl, by decide +kernel, rfl, by decide +kernel, by decide +kernel⟩
abbrev N_u_law_written : List Str := ["_law_f", "_law_text", "_law_power", "_law_number_here", "_law_term_here"]
theorem sc_u_law_written : FnScope N_u_law_written ["_law_f"] (defScope (top 27)) := ⟨rfl, rfl, rfl, by decide +kernel, rfl, by decide +kernel, by decide +kernel⟩
abbrev N_u_law_value : List Str := ["_law_word", "_law_sign"]
theorem sc_u_law_value : FnScope N_u_law_value ["_law_word"] (defScope (top 28)) := ⟨rfl, rfl, rfl, by decide +kernel, rfl, by decide +kernel, by decide +kernel⟩
abbrev N_u_law_term : List Str := ["_law_word", "_law_number_here", "_law_star", "_law_letter", "_law_many", "_law_power"]
theorem sc_u_law_term : FnScope N_u_law_term ["_law_word"] (defScope (top 29)) := ⟨rfl, rfl, rfl, by decide +kernel, rfl, by decide +kernel, by decide +kernel⟩
abbrev N_u_law_due : List Str := ["_law_text", "_law_words", "_law_numbers", "_law_k", "_law_term_here"]
theorem sc_u_law_due : FnScope N_u_law_due ["_law_text"] (defScope (top 30)) := ⟨rfl, rfl, rfl, by decide +kernel, rfl, by decide +kernel, by decide +kernel⟩
abbrev N_u_law_told : List Str := ["_law_thing", "e"]
theorem sc_u_law_told : FnScope N_u_law_told ["_law_thing"] (defScope (top 31)) := ⟨rfl, rfl, rfl, by decide +kernel, rfl, by decide +kernel, by decide +kernel⟩
abbrev N_u_law_changed : List Str := ["_law_text", "_law_bag_here", "_law_signs", "_law_sign", "_law_at", "_law_way", "_law_words", "_law_k"]
theorem sc_u_law_changed : FnScope N_u_law_changed ["_law_text", "_law_bag_here"] (defScope (top 32)) := ⟨rfl, rfl, rfl, by decide +kernel, rfl, by decide +kernel, by decide +kernel⟩
abbrev N_law : List Str := ["_law_script", "_law_at", "_law_text", "_law_other", "_law_bad", "_law_thing"]
theorem sc_law : FnScope N_law ["_law_script"] (defScope (top 33)) := ⟨rfl, rfl, rfl, by decide +kernel, rfl, by decide +kernel, by decide +kernel⟩
structure Tx (K : PySem.W.Frag) (mg : Str → Option Value) (c : String → Addr) (f14 f15 f16 f17 f18 f19 f20 f21 f23 f24 f25 f26 f27 f28 f29 f30 f31 f32 f33 : Addr) (d14 d15 d16 d17 d18 d19 d20 d21 d23 d24 d25 d26 d27 d28 d29 d30 d31 d32 d33 : FuncData) : Prop where
  M_BranchError : mg "BranchError" = some (.ref (c "BranchError"))
  M_NoPolynomial : mg "NoPolynomial" = some (.ref (c "NoPolynomial"))
  M_NoPrime : mg "NoPrime" = some (.ref (c "NoPrime"))
  M_NoRow : mg "NoRow" = some (.ref (c "NoRow"))
  M_NoSize : mg "NoSize" = some (.ref (c "NoSize"))
  M_NoText : mg "NoText" = some (.ref (c "NoText"))
  M_NoTower : mg "NoTower" = some (.ref (c "NoTower"))
  M_NotPlain : mg "NotPlain" = some (.ref (c "NotPlain"))
  M_TooDeep : mg "TooDeep" = some (.ref (c "TooDeep"))
  X_NoText : PySem.W.excIn K (c "NoText") [.type "ValueError", .type "Exception", .type "BaseException", .type "object"] "ValueError.__new__" = true
  K_NoText : PySem.W.keepIn K (.ref (c "NoText")) = true
  S_NoText : PySem.W.subIn K (.ref (c "NoText")) (.type "BaseException") = some true
  Y_NoText : PySem.W.typeIn K (.ref (c "NoText")) = some (.type "type")
  XC : ∀ n, csX n = true → ExcC K (c n)
  SF : SubF K c tbC tbT
  EX_BranchError : ∀ n, csX n = true → PySem.W.exmOne K (.ref (c n)) (.ref (c "BranchError")) = some true
  F_is_plain_number : Fun K "is_plain_number" "is_plain_number" (top 14) f14 d14
  M_is_plain_number : mg "is_plain_number" = some (.ref f14)
  B_is_plain_number : Binds K d14 ["word"] []
  F_letter_text : Fun K "letter_text" "letter_text" (top 15) f15 d15
  M_letter_text : mg "letter_text" = some (.ref f15)
  B_letter_text : Binds K d15 ["power"] []
  F_term_text : Fun K "term_text" "term_text" (top 16) f16 d16
  M_term_text : mg "term_text" = some (.ref f16)
  B_term_text : Binds K d16 ["number", "power"] []
  F_written : Fun K "written" "written" (top 17) f17 d17
  M_written : mg "written" = some (.ref f17)
  B_written : Binds K d17 ["f"] []
  F_read_power : Fun K "read_power" "read_power" (top 18) f18 d18
  M_read_power : mg "read_power" = some (.ref f18)
  B_read_power : Binds K d18 ["word"] []
  F_read_term : Fun K "read_term" "read_term" (top 19) f19 d19
  M_read_term : mg "read_term" = some (.ref f19)
  B_read_term : Binds K d19 ["word"] []
  F_read_terms : Fun K "read_terms" "read_terms" (top 20) f20 d20
  M_read_terms : mg "read_terms" = some (.ref f20)
  B_read_terms : Binds K d20 ["words"] []
  F_read_polynomial : Fun K "read_polynomial" "read_polynomial" (top 21) f21 d21
  M_read_polynomial : mg "read_polynomial" = some (.ref f21)
  B_read_polynomial : Binds K d21 ["text"] []
  F_u_law_bag : Fun K "_law_bag" "_law_bag" (top 23) f23 d23
  M_u_law_bag : mg "_law_bag" = some (.ref f23)
  B_u_law_bag : Binds K d23 ["_law_script", "_law_at"] []
  F_u_law_take : Fun K "_law_take" "_law_take" (top 24) f24 d24
  M_u_law_take : mg "_law_take" = some (.ref f24)
  B_u_law_take : Binds K d24 ["_law_bag_here", "_law_many"] []
  F_u_law_number : Fun K "_law_number" "_law_number" (top 25) f25 d25
  M_u_law_number : mg "_law_number" = some (.ref f25)
  B_u_law_number : Binds K d25 ["_law_bag_here"] []
  F_u_law_polynomial : Fun K "_law_polynomial" "_law_polynomial" (top 26) f26 d26
  M_u_law_polynomial : mg "_law_polynomial" = some (.ref f26)
  B_u_law_polynomial : Binds K d26 ["_law_bag_here"] []
  F_u_law_written : Fun K "_law_written" "_law_written" (top 27) f27 d27
  M_u_law_written : mg "_law_written" = some (.ref f27)
  B_u_law_written : Binds K d27 ["_law_f"] []
  F_u_law_value : Fun K "_law_value" "_law_value" (top 28) f28 d28
  M_u_law_value : mg "_law_value" = some (.ref f28)
  B_u_law_value : Binds K d28 ["_law_word"] []
  F_u_law_term : Fun K "_law_term" "_law_term" (top 29) f29 d29
  M_u_law_term : mg "_law_term" = some (.ref f29)
  B_u_law_term : Binds K d29 ["_law_word"] []
  F_u_law_due : Fun K "_law_due" "_law_due" (top 30) f30 d30
  M_u_law_due : mg "_law_due" = some (.ref f30)
  B_u_law_due : Binds K d30 ["_law_text"] []
  F_u_law_told : Fun K "_law_told" "_law_told" (top 31) f31 d31
  M_u_law_told : mg "_law_told" = some (.ref f31)
  B_u_law_told : Binds K d31 ["_law_thing"] []
  F_u_law_changed : Fun K "_law_changed" "_law_changed" (top 32) f32 d32
  M_u_law_changed : mg "_law_changed" = some (.ref f32)
  B_u_law_changed : Binds K d32 ["_law_text", "_law_bag_here"] []
  F_law : Fun K "law" "law" (top 33) f33 d33
  M_law : mg "law" = some (.ref f33)
  B_law : Binds K d33 ["_law_script"] []
  M_FIGURES : ∃ k, mg "FIGURES" = some (.str "0123456789" k)
  M_MOST_FIGURES : ∃ k, mg "MOST_FIGURES" = some (.int 60 k)
  M_MOST_POWER : ∃ k, mg "MOST_POWER" = some (.int 12 k)
  Z_ValueError : mg "ValueError" = none
  Z_abs : mg "abs" = none
  Z_all : mg "all" = none
  Z_int : mg "int" = none
  Z_isinstance : mg "isinstance" = none
  Z_len : mg "len" = none
  Z_max : mg "max" = none
  Z_min : mg "min" = none
  Z_range : mg "range" = none
  Z_str : mg "str" = none
section
variable {P : Program} {w : World} {K : PySem.W.Frag} {mg : Str → Option Value} {base : Heap} {c : Cl} {f14 f15 f16 f17 f18 f19 f20 f21 f23 f24 f25 f26 f27 f28 f29 f30 f31 f32 f33 : Addr} {d14 d15 d16 d17 d18 d19 d20 d21 d23 d24 d25 d26 d27 d28 d29 d30 d31 d32 d33 : FuncData}
theorem ok_is_plain_number (T : Tx K mg c f14 f15 f16 f17 f18 f19 f20 f21 f23 f24 f25 f26 f27 f28 f29 f30 f31 f32 f33 d14 d15 d16 d17 d18 d19 d20 d21 d23 d24 d25 d26 d27 d28 d29 d30 d31 d32 d33) : FnOk P w K mg base CX0 1 f14 d14 ["word"] (spPure (W0 K c) 1 m_is_plain_number) := by
  refine ev_fn (c := c) (b := b_is_plain_number) T.F_is_plain_number sc_is_plain_number rfl rfl rfl fun cdv A outer s H E hr => by
    refine ⟨_, _, (eb_cons (es_if (et_w (ew_or (et_not (et_leLe ev_int (ev_len (by rfl) T.Z_len (ea_cons (ev_var 0) ea_nil)) (ev_globI (by rfl) T.M_MOST_FIGURES.choose_spec))) (ew_or1 (et_w (ew_and (et_eq hr.units (ev_idx (ev_var 0) ev_int) ev_str) (ew_and1 (et_ne hr.units (ev_var 0) ev_str))))))) (eb_one (es_ret ev_bl)) eb_nil)
    (eb_one (es_ret (ev_all rfl (by rfl) T.Z_all (ea_cons (ev_lc [] [] rfl sc_is_plain_number.nd (ei_txt (ev_var 0)) (blkOk_by (N := N_is_plain_number) (sc := defScope (top 14)) (own := [("sign", 1)]) (by decide +kernel)) (fun _ _ _ _ _ => (eg_name (ws := ([("sign", 1)] : List (Str × Nat)).map (·.2)) 1 sc_is_plain_number.nd)) (fun _ _ _ _ _ => ef_nil) (fun _ _ _ _ _ => (ev_inS (ev_var 1) (ev_globS (by rfl) T.M_FIGURES.choose_spec)))) ea_nil))))), ?_⟩
    rfl
theorem ok_letter_text (T : Tx K mg c f14 f15 f16 f17 f18 f19 f20 f21 f23 f24 f25 f26 f27 f28 f29 f30 f31 f32 f33 d14 d15 d16 d17 d18 d19 d20 d21 d23 d24 d25 d26 d27 d28 d29 d30 d31 d32 d33) : FnOk P w K mg base CX0 1 f15 d15 ["power"] (spPure (W0 K c) 1 m_letter_text) := by
  refine ev_fn (c := c) (b := b_letter_text) T.F_letter_text sc_letter_text rfl rfl rfl fun cdv A outer s H E hr => by
    refine ⟨_, _, (eb_cons (es_if (et_eq hr.units (ev_var 0) ev_int) (eb_one (es_ret ev_str)) eb_nil)
    (eb_one (es_ret (ev_add ev_str (ev_str1 (by rfl) T.Z_str (ea_cons (ev_var 0) ea_nil)))))), ?_⟩
    rfl
theorem ok_u_law_bag (T : Tx K mg c f14 f15 f16 f17 f18 f19 f20 f21 f23 f24 f25 f26 f27 f28 f29 f30 f31 f32 f33 d14 d15 d16 d17 d18 d19 d20 d21 d23 d24 d25 d26 d27 d28 d29 d30 d31 d32 d33) : FnOk P w K mg base CX0 1 f23 d23 ["_law_script", "_law_at"] (spPure (W0 K c) 2 m_u_law_bag) := by
  refine ev_fn (c := c) (b := b_u_law_bag) T.F_u_law_bag sc_u_law_bag rfl rfl rfl fun cdv A outer s H E hr => by
    refine ⟨_, _, (eb_cons (es_set 2 sc_u_law_bag.nd ev_int)
    (eb_cons (es_if (et_lt (ev_var 1) (ev_len (by rfl) T.Z_len (ea_cons (ev_var 0) ea_nil))) (eb_one (es_set 2 sc_u_law_bag.nd (ev_idx (ev_var 0) (ev_var 1)))) eb_nil)
    (eb_cons (es_set 3 sc_u_law_bag.nd ev_int)
    (eb_cons (es_if (et_ge (ev_abs (by rfl) T.Z_abs (ea_cons (ev_var 2) ea_nil)) (ev_pow ev_int ev_int)) (eb_one (es_set 3 sc_u_law_bag.nd (ev_abs (by rfl) T.Z_abs (ea_cons (ev_var 2) ea_nil)))) eb_nil)
    (eb_one (es_ret (ev_lst (ea_cons (ev_move 3) (ea_cons (ev_add (ev_mod (ev_add (ev_add (ev_var 2) (ev_mul ev_int (ev_var 1))) ev_int) ev_int) ev_int) ea_nil))))))))), ?_⟩
    rfl
theorem ok_u_law_take (T : Tx K mg c f14 f15 f16 f17 f18 f19 f20 f21 f23 f24 f25 f26 f27 f28 f29 f30 f31 f32 f33 d14 d15 d16 d17 d18 d19 d20 d21 d23 d24 d25 d26 d27 d28 d29 d30 d31 d32 d33) : FnOk P w K mg base CX0 1 f24 d24 ["_law_bag_here", "_law_many"] (spIO (W0 K c) 2 m_u_law_take) := by
  refine ev_fnIO (c := c) (b := b_u_law_take) T.F_u_law_take sc_u_law_take rfl rfl rfl fun cdv A outer s H E hr => by
    refine ⟨_, _, (eb_cons (es_if (et_gt (ev_idx (ev_var 0) ev_int) ev_int) (eb_cons (es_set 2 sc_u_law_take.nd (ev_mod (ev_idx (ev_var 0) ev_int) (ev_var 1)))
    (eb_cons (es_asg (ev_div (ev_idx (ev_var 0) ev_int) (ev_var 1)) (eg_sub (ws := []) 0 ev_int))
    (eb_one (es_ret (ev_move 2))))) eb_nil)
    (eb_cons (es_asg (ev_mod (ev_add (ev_mul (ev_idx (ev_var 0) ev_int) ev_int) ev_int) ev_int) (eg_sub (ws := []) 0 ev_int))
    (eb_one (es_ret (ev_mod (ev_mod (ev_mul (ev_div (ev_idx (ev_var 0) ev_int) ev_int) ev_int) ev_int) (ev_var 1)))))), ?_⟩
    rfl
theorem ok_u_law_written (T : Tx K mg c f14 f15 f16 f17 f18 f19 f20 f21 f23 f24 f25 f26 f27 f28 f29 f30 f31 f32 f33 d14 d15 d16 d17 d18 d19 d20 d21 d23 d24 d25 d26 d27 d28 d29 d30 d31 d32 d33) : FnOk P w K mg base CX0 1 f27 d27 ["_law_f"] (spPure (W0 K c) 1 m_u_law_written) := by
  refine ev_fn (c := c) (b := b_u_law_written) T.F_u_law_written sc_u_law_written rfl rfl rfl fun cdv A outer s H E hr => by
    refine ⟨_, _, (eb_cons (es_set 1 sc_u_law_written.nd ev_str)
    (eb_cons (es_for PassesOwn.never rfl (ei_rng3 (by rfl) T.Z_range (ea_cons (ev_sub (ev_len (by rfl) T.Z_len (ea_cons (ev_var 0) ea_nil)) ev_int) (ea_cons (ev_neg ev_int) (ea_cons (ev_neg ev_int) ea_nil)))) (eg_name (ws := [2]) 2 sc_u_law_written.nd) (eb_cons (es_set 3 sc_u_law_written.nd (ev_idx (ev_var 0) (ev_var 2)))
    (eb_cons (es_set 4 sc_u_law_written.nd (ev_idx (ev_lst (ea_cons ev_str (ea_cons ev_str (ea_cons (ev_add ev_str (ev_str1 (by rfl) T.Z_str (ea_cons (ev_var 2) ea_nil))) ea_nil)))) (ev_min2 rfl (by rfl) T.Z_min (ea_cons (ev_var 2) (ea_cons ev_int ea_nil)))))
    (eb_cons (es_if (et_w (ew_or (et_ne hr.units (ev_abs (by rfl) T.Z_abs (ea_cons (ev_var 3) ea_nil)) ev_int) (ew_or1 (et_eq hr.units (ev_var 2) ev_int)))) (eb_one (es_set 4 sc_u_law_written.nd (ev_idx (ev_lst (ea_cons (ev_add (ev_add (ev_str1 (by rfl) T.Z_str (ea_cons (ev_abs (by rfl) T.Z_abs (ea_cons (ev_var 3) ea_nil)) ea_nil)) ev_str) (ev_var 4)) (ea_cons (ev_str1 (by rfl) T.Z_str (ea_cons (ev_abs (by rfl) T.Z_abs (ea_cons (ev_var 3) ea_nil)) ea_nil)) ea_nil))) (ev_int1 (by rfl) T.Z_int (ea_cons (ev_eq hr.units (ev_var 2) ev_int) ea_nil))))) eb_nil)
    (eb_one (es_if (et_w (ew_and (et_ne hr.units (ev_var 3) ev_int) (ew_and1 (et_eq hr.units (ev_var 1) ev_str)))) (eb_one (es_set 1 sc_u_law_written.nd (ev_add (ev_idx (ev_lst (ea_cons ev_str (ea_cons ev_str ea_nil))) (ev_int1 (by rfl) T.Z_int (ea_cons (ev_lt (ev_var 3) ev_int) ea_nil))) (ev_var 4)))) (eb_one (es_if (et_ne hr.units (ev_var 3) ev_int) (eb_one (es_set 1 sc_u_law_written.nd (ev_add (ev_add (ev_var 1) (ev_idx (ev_lst (ea_cons ev_str (ea_cons ev_str ea_nil))) (ev_int1 (by rfl) T.Z_int (ea_cons (ev_lt (ev_var 3) ev_int) ea_nil)))) (ev_var 4)))) eb_nil))))))))
    (eb_cons (es_if (et_eq hr.units (ev_var 1) ev_str) (eb_one (es_ret ev_str)) eb_nil)
    (eb_one (es_ret (ev_move 1)))))), ?_⟩
    rfl
theorem ok_u_law_value (T : Tx K mg c f14 f15 f16 f17 f18 f19 f20 f21 f23 f24 f25 f26 f27 f28 f29 f30 f31 f32 f33 d14 d15 d16 d17 d18 d19 d20 d21 d23 d24 d25 d26 d27 d28 d29 d30 d31 d32 d33) : FnOk P w K mg base CX0 1 f28 d28 ["_law_word"] (spPure (W0 K c) 1 m_u_law_value) := by
  refine ev_fn (c := c) (b := b_u_law_value) T.F_u_law_value sc_u_law_value rfl rfl rfl fun cdv A outer s H E hr => by
    refine ⟨_, _, (eb_cons (es_if (et_w (ew_or (et_eq hr.units (ev_var 0) ev_str) (ew_or (et_gt (ev_len (by rfl) T.Z_len (ea_cons (ev_var 0) ea_nil)) ev_int) (ew_or1 (et_ne hr.units (ev_lc [] [] rfl sc_u_law_value.nd (ei_txt (ev_var 0)) (blkOk_by (N := N_u_law_value) (sc := defScope (top 28)) (own := [("_law_sign", 1)]) (by decide +kernel)) (fun _ _ _ _ _ => (eg_name (ws := ([("_law_sign", 1)] : List (Str × Nat)).map (·.2)) 1 sc_u_law_value.nd)) (fun _ _ _ _ _ => (ef_one (et_notInS (ev_var 1) ev_str))) (fun _ _ _ _ _ => (ev_var 1))) (ev_lst ea_nil)))))) (eb_one (es_ret ev_non)) eb_nil)
    (eb_cons (es_if (et_w (ew_and (et_eq hr.units (ev_idx (ev_var 0) ev_int) ev_str) (ew_and1 (et_ne hr.units (ev_var 0) ev_str)))) (eb_one (es_ret ev_non)) eb_nil)
    (eb_one (es_ret (ev_intS (by rfl) T.Z_int (ea_cons (ev_var 0) ea_nil)))))), ?_⟩
    rfl
theorem ok_term_text (T : Tx K mg c f14 f15 f16 f17 f18 f19 f20 f21 f23 f24 f25 f26 f27 f28 f29 f30 f31 f32 f33 d14 d15 d16 d17 d18 d19 d20 d21 d23 d24 d25 d26 d27 d28 d29 d30 d31 d32 d33) : FnOk P w K mg base CX0 2 f16 d16 ["number", "power"] (spPure (W0 K c) 2 m_term_text) := by
  have G_letter_text := ok_letter_text (P := P) (w := w) (base := base) (c := c) T
  refine ev_fn (c := c) (b := b_term_text) T.F_term_text sc_term_text rfl rfl rfl fun cdv A outer s H E hr => by
    refine ⟨_, _, (eb_cons (es_if (et_eq hr.units (ev_var 1) ev_int) (eb_one (es_ret (ev_str1 (by rfl) T.Z_str (ea_cons (ev_var 0) ea_nil)))) eb_nil)
    (eb_cons (es_if (et_eq hr.units (ev_var 0) ev_int) (eb_one (es_ret (ev_call G_letter_text L_letter_text (hr.mono (by decide)) (by rfl) T.M_letter_text T.F_letter_text.kp T.B_letter_text (ea_cons (ev_var 1) ea_nil)))) eb_nil)
    (eb_one (es_ret (ev_add (ev_add (ev_str1 (by rfl) T.Z_str (ea_cons (ev_var 0) ea_nil)) ev_str) (ev_call G_letter_text L_letter_text (hr.mono (by decide)) (by rfl) T.M_letter_text T.F_letter_text.kp T.B_letter_text (ea_cons (ev_var 1) ea_nil))))))), ?_⟩
    rfl
theorem ok_read_power (T : Tx K mg c f14 f15 f16 f17 f18 f19 f20 f21 f23 f24 f25 f26 f27 f28 f29 f30 f31 f32 f33 d14 d15 d16 d17 d18 d19 d20 d21 d23 d24 d25 d26 d27 d28 d29 d30 d31 d32 d33) : FnOk P w K mg base (L2.CX P w) 2 f18 d18 ["word"] (spX (W0 K c) 1 m_read_power mx_read_power) := by
  have G_is_plain_number := ok_is_plain_number (P := P) (w := w) (base := base) (c := c) T
  refine ev_fnX (c := c) (b := b_read_power) (bx := xb_read_power) T.F_read_power sc_read_power rfl rfl rfl rfl fun cdv A outer s H E hr => by
    have tk := takes_of (X := cxOf (L2.CX P w) P w K mg base N_read_power "read_power" (defScope (top 18)) f18 cdv A outer s H E) rfl rfl rfl rfl
    refine ⟨_, _, _, (xb_cons (xs_of (es_if (et_eq hr.units (ev_var 0) ev_str) (eb_one (es_ret ev_int)) eb_nil))
    (xb_cons (xs_if (et_w (ew_or (et_ne hr.units (ev_cutS (ev_var 0) eo_none (eo_some ev_int)) ev_str) (ew_or (et_not (et_val (ev_call G_is_plain_number L_is_plain_number (hr.mono (by decide)) (by rfl) T.M_is_plain_number T.F_is_plain_number.kp T.B_is_plain_number (ea_cons (ev_cutS (ev_var 0) (eo_some ev_int) eo_none) ea_nil)))) (ew_or1 (et_gt (ev_intS (by rfl) T.Z_int (ea_cons (ev_cutS (ev_var 0) (eo_some ev_int) eo_none) ea_nil)) (ev_globI (by rfl) T.M_MOST_POWER.choose_spec)))))) (xb_one (xs_raise tk PySem.F.excBase_ValueError T.X_NoText T.M_NoText T.K_NoText (raises_own T.S_NoText T.Y_NoText) (by rfl))) xb_nil)
    (xb_one (xs_of (es_ret (ev_intS (by rfl) T.Z_int (ea_cons (ev_cutS (ev_var 0) (eo_some ev_int) eo_none) ea_nil))))))), ?_⟩
    exact ⟨rfl, rfl⟩
theorem ok_u_law_number (T : Tx K mg c f14 f15 f16 f17 f18 f19 f20 f21 f23 f24 f25 f26 f27 f28 f29 f30 f31 f32 f33 d14 d15 d16 d17 d18 d19 d20 d21 d23 d24 d25 d26 d27 d28 d29 d30 d31 d32 d33) : FnOk P w K mg base CX0 2 f25 d25 ["_law_bag_here"] (spIO (W0 K c) 1 m_u_law_number) := by
  have G_u_law_take := ok_u_law_take (P := P) (w := w) (base := base) (c := c) T
  refine ev_fnIO (c := c) (b := b_u_law_number) T.F_u_law_number sc_u_law_number rfl rfl rfl fun cdv A outer s H E hr => by
    refine ⟨_, _, (eb_cons (es_set 1 sc_u_law_number.nd (ev_callIO 0 G_u_law_take L_u_law_take (hr.mono (by decide)) (by rfl) T.M_u_law_take T.F_u_law_take.kp T.B_u_law_take (ea_cons ev_int ea_nil)))
    (eb_cons (es_set 2 sc_u_law_number.nd (ev_sub ev_int (ev_mul ev_int (ev_callIO 0 G_u_law_take L_u_law_take (hr.mono (by decide)) (by rfl) T.M_u_law_take T.F_u_law_take.kp T.B_u_law_take (ea_cons ev_int ea_nil)))))
    (eb_cons (es_if (et_lt (ev_var 1) ev_int) (eb_one (es_ret ev_int)) eb_nil)
    (eb_cons (es_if (et_eq hr.units (ev_var 1) ev_int) (eb_one (es_ret (ev_move 2))) eb_nil)
    (eb_cons (es_if (et_eq hr.units (ev_var 1) ev_int) (eb_one (es_ret (ev_mul (ev_var 2) (ev_callIO 0 G_u_law_take L_u_law_take (hr.mono (by decide)) (by rfl) T.M_u_law_take T.F_u_law_take.kp T.B_u_law_take (ea_cons (ev_pow ev_int ev_int) ea_nil))))) eb_nil)
    (eb_one (es_ret (ev_mul (ev_var 2) (ev_callIO 0 G_u_law_take L_u_law_take (hr.mono (by decide)) (by rfl) T.M_u_law_take T.F_u_law_take.kp T.B_u_law_take (ea_cons (ev_idx (ev_lst (ea_cons ev_int (ea_cons ev_int (ea_cons (ev_pow ev_int ev_int) ea_nil)))) (ev_mod (ev_var 1) ev_int)) ea_nil)))))))))), ?_⟩
    rfl
theorem ok_u_law_term (T : Tx K mg c f14 f15 f16 f17 f18 f19 f20 f21 f23 f24 f25 f26 f27 f28 f29 f30 f31 f32 f33 d14 d15 d16 d17 d18 d19 d20 d21 d23 d24 d25 d26 d27 d28 d29 d30 d31 d32 d33) : FnOk P w K mg base CX0 2 f29 d29 ["_law_word"] (spPure (W0 K c) 1 m_u_law_term) := by
  have G_u_law_value := ok_u_law_value (P := P) (w := w) (base := base) (c := c) T
  refine ev_fn (c := c) (b := b_u_law_term) T.F_u_law_term sc_u_law_term rfl rfl rfl fun cdv A outer s H E hr => by
    refine ⟨_, _, (eb_cons (es_asg (ev_part (ev_var 0) ev_str) (eg_tup rfl (egs_cons (eg_name (ws := [1, 2, 3]) 1 sc_u_law_term.nd) (egs_cons (eg_name (ws := [1, 2, 3]) 2 sc_u_law_term.nd) (egs_cons (eg_name (ws := [1, 2, 3]) 3 sc_u_law_term.nd) egs_nil)))))
    (eb_cons (es_if (et_w (ew_and (et_eq hr.units (ev_var 2) ev_str) (ew_and1 (et_notInS ev_str (ev_var 0))))) (eb_one (es_ret (ev_ife (et_isN (ev_call G_u_law_value L_u_law_value (hr.mono (by decide)) (by rfl) T.M_u_law_value T.F_u_law_value.kp T.B_u_law_value (ea_cons (ev_var 0) ea_nil)) ev_non) ev_non (ev_tup (ea_cons (ev_call G_u_law_value L_u_law_value (hr.mono (by decide)) (by rfl) T.M_u_law_value T.F_u_law_value.kp T.B_u_law_value (ea_cons (ev_var 0) ea_nil)) (ea_cons ev_int ea_nil)))))) eb_nil)
    (eb_cons (es_if (et_eq hr.units (ev_var 2) ev_str) (eb_one (es_par 1 3 rfl sc_u_law_term.nd (ea_cons ev_str (ea_cons (ev_move 0) ea_nil)))) eb_nil)
    (eb_cons (es_set 4 sc_u_law_term.nd (ev_call G_u_law_value L_u_law_value (hr.mono (by decide)) (by rfl) T.M_u_law_value T.F_u_law_value.kp T.B_u_law_value (ea_cons (ev_var 1) ea_nil)))
    (eb_cons (es_set 5 sc_u_law_term.nd (ev_call G_u_law_value L_u_law_value (hr.mono (by decide)) (by rfl) T.M_u_law_value T.F_u_law_value.kp T.B_u_law_value (ea_cons (ev_cutS (ev_var 3) (eo_some ev_int) eo_none) ea_nil)))
    (eb_cons (es_if (et_eq hr.units (ev_var 3) ev_str) (eb_one (es_set 5 sc_u_law_term.nd ev_int)) (eb_one (es_if (et_ne hr.units (ev_cutS (ev_var 3) eo_none (eo_some ev_int)) ev_str) (eb_one (es_set 5 sc_u_law_term.nd ev_non)) eb_nil)))
    (eb_cons (es_if (et_w (ew_or (et_isN (ev_var 4) ev_non) (ew_or (et_isN (ev_var 5) ev_non) (ew_or1 (et_gt (ev_var 5) ev_int))))) (eb_one (es_ret ev_non)) eb_nil)
    (eb_one (es_ret (ev_tup (ea_cons (ev_move 4) (ea_cons (ev_move 5) ea_nil)))))))))))), ?_⟩
    rfl
theorem ok_u_law_changed (T : Tx K mg c f14 f15 f16 f17 f18 f19 f20 f21 f23 f24 f25 f26 f27 f28 f29 f30 f31 f32 f33 d14 d15 d16 d17 d18 d19 d20 d21 d23 d24 d25 d26 d27 d28 d29 d30 d31 d32 d33) : FnOk P w K mg base CX0 2 f32 d32 ["_law_text", "_law_bag_here"] (spIO2 (W0 K c) 2 m_u_law_changed) := by
  have G_u_law_take := ok_u_law_take (P := P) (w := w) (base := base) (c := c) T
  refine ev_fnIO2 (c := c) (b := b_u_law_changed) T.F_u_law_changed sc_u_law_changed rfl rfl rfl fun cdv A outer s H E hr => by
    refine ⟨_, _, (eb_cons (es_set 2 sc_u_law_changed.nd ev_str)
    (eb_cons (es_set 3 sc_u_law_changed.nd (ev_idx (ev_var 2) (ev_callIO 1 G_u_law_take L_u_law_take (hr.mono (by decide)) (by rfl) T.M_u_law_take T.F_u_law_take.kp T.B_u_law_take (ea_cons (ev_len (by rfl) T.Z_len (ea_cons (ev_var 2) ea_nil)) ea_nil))))
    (eb_cons (es_if (et_gt (ev_callIO 1 G_u_law_take L_u_law_take (hr.mono (by decide)) (by rfl) T.M_u_law_take T.F_u_law_take.kp T.B_u_law_take (ea_cons ev_int ea_nil)) ev_int) (eb_one (es_set 3 sc_u_law_changed.nd (ev_idx ev_str (ev_callIO 1 G_u_law_take L_u_law_take (hr.mono (by decide)) (by rfl) T.M_u_law_take T.F_u_law_take.kp T.B_u_law_take (ea_cons ev_int ea_nil))))) eb_nil)
    (eb_cons (es_set 4 sc_u_law_changed.nd (ev_callIO 1 G_u_law_take L_u_law_take (hr.mono (by decide)) (by rfl) T.M_u_law_take T.F_u_law_take.kp T.B_u_law_take (ea_cons (ev_len (by rfl) T.Z_len (ea_cons (ev_var 0) ea_nil)) ea_nil)))
    (eb_cons (es_set 5 sc_u_law_changed.nd (ev_callIO 1 G_u_law_take L_u_law_take (hr.mono (by decide)) (by rfl) T.M_u_law_take T.F_u_law_take.kp T.B_u_law_take (ea_cons ev_int ea_nil)))
    (eb_cons (es_if (et_lt (ev_var 5) ev_int) (eb_one (es_ret (ev_idx (ev_lst (ea_cons (ev_add (ev_add (ev_cutS (ev_var 0) eo_none (eo_some (ev_var 4))) (ev_var 3)) (ev_cutS (ev_var 0) (eo_some (ev_add (ev_var 4) ev_int)) eo_none)) (ea_cons (ev_add (ev_cutS (ev_var 0) eo_none (eo_some (ev_var 4))) (ev_cutS (ev_var 0) (eo_some (ev_add (ev_var 4) ev_int)) eo_none)) (ea_cons (ev_add (ev_add (ev_cutS (ev_var 0) eo_none (eo_some (ev_var 4))) (ev_var 3)) (ev_cutS (ev_var 0) (eo_some (ev_var 4)) eo_none)) ea_nil)))) (ev_var 5)))) eb_nil)
    (eb_cons (es_set 6 sc_u_law_changed.nd (ev_split (ev_var 0) ev_str))
    (eb_cons (es_set 7 sc_u_law_changed.nd (ev_callIO 1 G_u_law_take L_u_law_take (hr.mono (by decide)) (by rfl) T.M_u_law_take T.F_u_law_take.kp T.B_u_law_take (ea_cons (ev_len (by rfl) T.Z_len (ea_cons (ev_var 6) ea_nil)) ea_nil)))
    (eb_cons (es_if (et_eq hr.units (ev_var 5) ev_int) (eb_one (es_insert 6 (ea_cons (ev_var 7) (ea_cons (ev_idx (ev_var 6) (ev_var 7)) ea_nil)))) (eb_one (es_if (et_eq hr.units (ev_var 5) ev_int) (eb_one (es_popAt 6 (ea_cons (ev_var 7) ea_nil))) (eb_one (es_if (et_eq hr.units (ev_var 5) ev_int) (eb_one (es_asg (ev_idx (ev_lst (ea_cons ev_str (ea_cons ev_str (ea_cons ev_str (ea_cons ev_str (ea_cons ev_str (ea_cons ev_str (ea_cons ev_str (ea_cons ev_str (ea_cons ev_str (ea_cons ev_str (ea_cons ev_str (ea_cons ev_str ea_nil))))))))))))) (ev_callIO 1 G_u_law_take L_u_law_take (hr.mono (by decide)) (by rfl) T.M_u_law_take T.F_u_law_take.kp T.B_u_law_take (ea_cons ev_int ea_nil))) (eg_sub (ws := []) 6 (ev_var 7)))) (eb_one (es_if (et_eq hr.units (ev_var 5) ev_int) (eb_one (es_reverse 6)) (eb_one (es_swap 6 (es_asg (ev_tup (ea_cons (ev_idx (ev_var 6) ev_int) (ea_cons (ev_idx (ev_var 6) (ev_var 7)) ea_nil))) (eg_tup rfl (egs_cons (eg_sub (ws := []) 6 (ev_var 7)) (egs_cons (eg_sub (ws := []) 6 ev_int) egs_nil)))) ev_int (ev_var 7) (ev_var 7) ev_int)))))))))
    (eb_one (es_ret (ev_join ev_str (ev_var 6))))))))))))), ?_⟩
    rfl
theorem ok_written (T : Tx K mg c f14 f15 f16 f17 f18 f19 f20 f21 f23 f24 f25 f26 f27 f28 f29 f30 f31 f32 f33 d14 d15 d16 d17 d18 d19 d20 d21 d23 d24 d25 d26 d27 d28 d29 d30 d31 d32 d33) : FnOk P w K mg base CX0 3 f17 d17 ["f"] (spPure (W0 K c) 1 m_written) := by
  have G_term_text := ok_term_text (P := P) (w := w) (base := base) (c := c) T
  refine ev_fn (c := c) (b := b_written) T.F_written sc_written rfl rfl rfl fun cdv A outer s H E hr => by
    refine ⟨_, _, (eb_cons (es_set 1 sc_written.nd ev_str)
    (eb_cons (es_for PassesOwn.never rfl (ei_rng3 (by rfl) T.Z_range (ea_cons (ev_sub (ev_len (by rfl) T.Z_len (ea_cons (ev_var 0) ea_nil)) ev_int) (ea_cons (ev_neg ev_int) (ea_cons (ev_neg ev_int) ea_nil)))) (eg_name (ws := [2]) 2 sc_written.nd) (eb_one (es_if (et_ne hr.units (ev_idx (ev_var 0) (ev_var 2)) ev_int) (eb_cons (es_set 3 sc_written.nd (ev_idx (ev_lst (ea_cons ev_str (ea_cons ev_str ea_nil))) (ev_int1 (by rfl) T.Z_int (ea_cons (ev_lt (ev_idx (ev_var 0) (ev_var 2)) ev_int) ea_nil))))
    (eb_cons (es_if (et_eq hr.units (ev_var 1) ev_str) (eb_one (es_set 3 sc_written.nd (ev_idx (ev_lst (ea_cons ev_str (ea_cons ev_str ea_nil))) (ev_int1 (by rfl) T.Z_int (ea_cons (ev_lt (ev_idx (ev_var 0) (ev_var 2)) ev_int) ea_nil))))) eb_nil)
    (eb_one (es_set 1 sc_written.nd (ev_add (ev_add (ev_var 1) (ev_var 3)) (ev_call G_term_text L_term_text (hr.mono (by decide)) (by rfl) T.M_term_text T.F_term_text.kp T.B_term_text (ea_cons (ev_abs (by rfl) T.Z_abs (ea_cons (ev_idx (ev_var 0) (ev_var 2)) ea_nil)) (ea_cons (ev_var 2) ea_nil)))))))) eb_nil)))
    (eb_cons (es_if (et_eq hr.units (ev_var 1) ev_str) (eb_one (es_ret ev_str)) eb_nil)
    (eb_one (es_ret (ev_move 1)))))), ?_⟩
    rfl
theorem ok_read_term (T : Tx K mg c f14 f15 f16 f17 f18 f19 f20 f21 f23 f24 f25 f26 f27 f28 f29 f30 f31 f32 f33 d14 d15 d16 d17 d18 d19 d20 d21 d23 d24 d25 d26 d27 d28 d29 d30 d31 d32 d33) : FnOk P w K mg base (L2.CX P w) 3 f19 d19 ["word"] (spX (W0 K c) 1 m_read_term mx_read_term) := by
  have G_is_plain_number := ok_is_plain_number (P := P) (w := w) (base := base) (c := c) T
  have G_read_power := ok_read_power (P := P) (w := w) (base := base) (c := c) T
  refine ev_fnX (c := c) (b := b_read_term) (bx := xb_read_term) T.F_read_term sc_read_term rfl rfl rfl rfl fun cdv A outer s H E hr => by
    have tk := takes_of (X := cxOf (L2.CX P w) P w K mg base N_read_term "read_term" (defScope (top 19)) f19 cdv A outer s H E) rfl rfl rfl rfl
    refine ⟨_, _, _, (xb_cons (xs_of (es_if (et_val (ev_call G_is_plain_number L_is_plain_number (hr.mono (by decide)) (by rfl) T.M_is_plain_number T.F_is_plain_number.kp T.B_is_plain_number (ea_cons (ev_var 0) ea_nil))) (eb_one (es_ret (ev_tup (ea_cons (ev_intS (by rfl) T.Z_int (ea_cons (ev_var 0) ea_nil)) (ea_cons ev_int ea_nil))))) eb_nil))
    (xb_cons (xs_of (es_asg (ev_part (ev_var 0) ev_str) (eg_tup rfl (egs_cons (eg_name (ws := [1, 2, 3]) 1 sc_read_term.nd) (egs_cons (eg_name (ws := [1, 2, 3]) 2 sc_read_term.nd) (egs_cons (eg_name (ws := [1, 2, 3]) 3 sc_read_term.nd) egs_nil))))))
    (xb_cons (xs_if (et_eq hr.units (ev_var 2) ev_str) (xb_one (xs_ret (xe_tup (xa_cons (xe_of ev_int) (xa_cons (xe_call tk G_read_power L_read_power LX_read_power (hr.mono (by decide)) (by rfl) T.M_read_power T.F_read_power.kp T.B_read_power (xa_of (ea_cons (ev_var 0) ea_nil))) (xa_of ea_nil)))))) xb_nil)
    (xb_cons (xs_if (et_not (et_val (ev_call G_is_plain_number L_is_plain_number (hr.mono (by decide)) (by rfl) T.M_is_plain_number T.F_is_plain_number.kp T.B_is_plain_number (ea_cons (ev_var 1) ea_nil)))) (xb_one (xs_raise tk PySem.F.excBase_ValueError T.X_NoText T.M_NoText T.K_NoText (raises_own T.S_NoText T.Y_NoText) (by rfl))) xb_nil)
    (xb_one (xs_ret (xe_tup (xa_cons (xe_of (ev_intS (by rfl) T.Z_int (ea_cons (ev_var 1) ea_nil))) (xa_cons (xe_call tk G_read_power L_read_power LX_read_power (hr.mono (by decide)) (by rfl) T.M_read_power T.F_read_power.kp T.B_read_power (xa_of (ea_cons (ev_var 3) ea_nil))) (xa_of ea_nil)))))))))), ?_⟩
    exact ⟨rfl, rfl⟩
theorem ok_u_law_polynomial (T : Tx K mg c f14 f15 f16 f17 f18 f19 f20 f21 f23 f24 f25 f26 f27 f28 f29 f30 f31 f32 f33 d14 d15 d16 d17 d18 d19 d20 d21 d23 d24 d25 d26 d27 d28 d29 d30 d31 d32 d33) : FnOk P w K mg base CX0 3 f26 d26 ["_law_bag_here"] (spIO (W0 K c) 1 m_u_law_polynomial) := by
  have G_u_law_number := ok_u_law_number (P := P) (w := w) (base := base) (c := c) T
  have G_u_law_take := ok_u_law_take (P := P) (w := w) (base := base) (c := c) T
  refine ev_fnIO (c := c) (b := b_u_law_polynomial) T.F_u_law_polynomial sc_u_law_polynomial rfl rfl rfl fun cdv A outer s H E hr => by
    refine ⟨_, _, (eb_cons (es_setLc 1 [] [0] rfl sc_u_law_polynomial.nd (sw_true rfl rfl rfl (by decide +kernel)) (ei_rng1 (by rfl) T.Z_range (ea_cons (ev_callIO 0 G_u_law_take L_u_law_take (hr.mono (by decide)) (by rfl) T.M_u_law_take T.F_u_law_take.kp T.B_u_law_take (ea_cons ev_int ea_nil)) ea_nil)) (blkOk_by (N := N_u_law_polynomial) (sc := defScope (top 26)) (own := [("_law_k", 2)]) (by decide +kernel)) (fun _ _ _ _ _ => (eg_name (ws := ([("_law_k", 2)] : List (Str × Nat)).map (·.2)) 2 sc_u_law_polynomial.nd)) (fun _ _ _ _ _ => ef_nil) (fun _ _ _ _ _ => (ev_callIO 0 G_u_law_number L_u_law_number (hr.mono (by decide)) (by rfl) T.M_u_law_number T.F_u_law_number.kp T.B_u_law_number ea_nil)))
    (eb_cons (es_while PassesOwn.never (et_w (ew_and (et_ne hr.units (ev_var 1) (ev_lst ea_nil)) (ew_and1 (et_eq hr.units (ev_idx (ev_var 1) (ev_neg ev_int)) ev_int)))) (eb_one (es_expr (ev_pop 1))))
    (eb_one (es_ret (ev_move 1))))), ?_⟩
    rfl
theorem ok_u_law_due (T : Tx K mg c f14 f15 f16 f17 f18 f19 f20 f21 f23 f24 f25 f26 f27 f28 f29 f30 f31 f32 f33 d14 d15 d16 d17 d18 d19 d20 d21 d23 d24 d25 d26 d27 d28 d29 d30 d31 d32 d33) : FnOk P w K mg base CX0 3 f30 d30 ["_law_text"] (spPure (W0 K c) 1 m_u_law_due) := by
  have G_u_law_term := ok_u_law_term (P := P) (w := w) (base := base) (c := c) T
  have G_u_law_written := ok_u_law_written (P := P) (w := w) (base := base) (c := c) T
  refine ev_fn (c := c) (b := b_u_law_due) T.F_u_law_due sc_u_law_due rfl rfl rfl fun cdv A outer s H E hr => by
    refine ⟨_, _, (eb_cons (es_set 1 sc_u_law_due.nd (ev_split (ev_add ev_str (ev_var 0)) ev_str))
    (eb_cons (es_if (et_eq hr.units (ev_cutS (ev_var 0) eo_none (eo_some ev_int)) ev_str) (eb_one (es_set 1 sc_u_law_due.nd (ev_split (ev_add ev_str (ev_cutS (ev_var 0) (eo_some ev_int) eo_none)) ev_str))) eb_nil)
    (eb_cons (es_setLc 2 [] [] rfl sc_u_law_due.nd (sw_true rfl rfl rfl (by decide +kernel)) (ei_rng1 (by rfl) T.Z_range (ea_cons ev_int ea_nil)) (blkOk_by (N := N_u_law_due) (sc := defScope (top 30)) (own := [("_law_k", 3)]) (by decide +kernel)) (fun _ _ _ _ _ => (eg_name (ws := ([("_law_k", 3)] : List (Str × Nat)).map (·.2)) 3 sc_u_law_due.nd)) (fun _ _ _ _ _ => ef_nil) (fun _ _ _ _ _ => ev_int))
    (eb_cons (es_if (et_eq hr.units (ev_mod (ev_len (by rfl) T.Z_len (ea_cons (ev_var 1) ea_nil)) ev_int) ev_int) (eb_one (es_ret ev_non)) eb_nil)
    (eb_cons (es_for PassesOwn.never rfl (ei_rng3 (by rfl) T.Z_range (ea_cons ev_int (ea_cons (ev_len (by rfl) T.Z_len (ea_cons (ev_var 1) ea_nil)) (ea_cons ev_int ea_nil)))) (eg_name (ws := [3]) 3 sc_u_law_due.nd) (eb_cons (es_set 4 sc_u_law_due.nd (ev_call G_u_law_term L_u_law_term (hr.mono (by decide)) (by rfl) T.M_u_law_term T.F_u_law_term.kp T.B_u_law_term (ea_cons (ev_idx (ev_var 1) (ev_add (ev_var 3) ev_int)) ea_nil)))
    (eb_cons (es_if (et_w (ew_or (et_notIn (ev_idx (ev_var 1) (ev_var 3)) (ev_lst (ea_cons ev_str (ea_cons ev_str ea_nil)))) (ew_or1 (et_isN (ev_var 4) ev_non)))) (eb_one (es_ret ev_non)) eb_nil)
    (eb_one (es_augSAdd 2 (ev_idx (ev_var 4) ev_int) (ev_mul (ev_idx (ev_var 4) ev_int) (ev_idx (ev_lst (ea_cons (ev_neg ev_int) (ea_cons ev_int ea_nil))) (ev_int1 (by rfl) T.Z_int (ea_cons (ev_eq hr.units (ev_idx (ev_var 1) (ev_var 3)) ev_str) ea_nil)))))))))
    (eb_cons (es_while PassesOwn.never (et_w (ew_and (et_ne hr.units (ev_var 2) (ev_lst ea_nil)) (ew_and1 (et_eq hr.units (ev_idx (ev_var 2) (ev_neg ev_int)) ev_int)))) (eb_one (es_expr (ev_pop 2))))
    (eb_cons (es_if (et_ne hr.units (ev_call G_u_law_written L_u_law_written (hr.mono (by decide)) (by rfl) T.M_u_law_written T.F_u_law_written.kp T.B_u_law_written (ea_cons (ev_var 2) ea_nil)) (ev_var 0)) (eb_one (es_ret ev_non)) eb_nil)
    (eb_one (es_ret (ev_move 2)))))))))), ?_⟩
    rfl
theorem ok_read_terms (T : Tx K mg c f14 f15 f16 f17 f18 f19 f20 f21 f23 f24 f25 f26 f27 f28 f29 f30 f31 f32 f33 d14 d15 d16 d17 d18 d19 d20 d21 d23 d24 d25 d26 d27 d28 d29 d30 d31 d32 d33) : FnOk P w K mg base (L2.CX P w) 4 f20 d20 ["words"] (spX (W0 K c) 1 m_read_terms mx_read_terms) := by
  have G_read_term := ok_read_term (P := P) (w := w) (base := base) (c := c) T
  refine ev_fnX (c := c) (b := b_read_terms) (bx := xb_read_terms) T.F_read_terms sc_read_terms rfl rfl rfl rfl fun cdv A outer s H E hr => by
    have tk := takes_of (X := cxOf (L2.CX P w) P w K mg base N_read_terms "read_terms" (defScope (top 20)) f20 cdv A outer s H E) rfl rfl rfl rfl
    refine ⟨_, _, _, (xb_cons (xs_of (es_set 1 sc_read_terms.nd ev_int))
    (xb_cons (xs_of (es_set 2 sc_read_terms.nd (ev_idx (ev_var 0) ev_int)))
    (xb_cons (xs_of (es_if (et_eq hr.units (ev_cutS (ev_var 2) eo_none (eo_some ev_int)) ev_str) (eb_cons (es_set 1 sc_read_terms.nd (ev_neg ev_int))
    (eb_one (es_set 2 sc_read_terms.nd (ev_cutS (ev_var 2) (eo_some ev_int) eo_none)))) eb_nil))
    (xb_cons (xs_asg (xe_call tk G_read_term L_read_term LX_read_term (hr.mono (by decide)) (by rfl) T.M_read_term T.F_read_term.kp T.B_read_term (xa_of (ea_cons (ev_var 2) ea_nil))) (eg_tup rfl (egs_cons (eg_name (ws := [3, 4]) 3 sc_read_terms.nd) (egs_cons (eg_name (ws := [3, 4]) 4 sc_read_terms.nd) egs_nil))))
    (xb_cons (xs_of (es_set 5 sc_read_terms.nd (ev_lst (ea_cons (ev_tup (ea_cons (ev_mul (ev_var 1) (ev_var 3)) (ea_cons (ev_move 4) ea_nil))) ea_nil))))
    (xb_cons (xs_for (passes_of rfl) rfl (xi_of (ei_rng3 (by rfl) T.Z_range (ea_cons ev_int (ea_cons (ev_len (by rfl) T.Z_len (ea_cons (ev_var 0) ea_nil)) (ea_cons ev_int ea_nil))))) (eg_name (ws := [6]) 6 sc_read_terms.nd) (xb_cons (xs_if (et_w (ew_or (et_notIn (ev_idx (ev_var 0) (ev_var 6)) (ev_tup (ea_cons ev_str (ea_cons ev_str ea_nil)))) (ew_or1 (et_eq hr.units (ev_add (ev_var 6) ev_int) (ev_len (by rfl) T.Z_len (ea_cons (ev_var 0) ea_nil)))))) (xb_one (xs_raise tk PySem.F.excBase_ValueError T.X_NoText T.M_NoText T.K_NoText (raises_own T.S_NoText T.Y_NoText) (by rfl))) xb_nil)
    (xb_cons (xs_asg (xe_call tk G_read_term L_read_term LX_read_term (hr.mono (by decide)) (by rfl) T.M_read_term T.F_read_term.kp T.B_read_term (xa_of (ea_cons (ev_idx (ev_var 0) (ev_add (ev_var 6) ev_int)) ea_nil))) (eg_tup rfl (egs_cons (eg_name (ws := [3, 4]) 3 sc_read_terms.nd) (egs_cons (eg_name (ws := [3, 4]) 4 sc_read_terms.nd) egs_nil))))
    (xb_cons (xs_of (es_if (et_eq hr.units (ev_idx (ev_var 0) (ev_var 6)) ev_str) (eb_one (es_set 3 sc_read_terms.nd (ev_sub ev_int (ev_var 3)))) eb_nil))
    (xb_one (xs_of (es_append 5 (ev_tup (ea_cons (ev_move 3) (ea_cons (ev_move 4) ea_nil))))))))))
    (xb_one (xs_of (es_ret (ev_move 5)))))))))), ?_⟩
    exact ⟨rfl, rfl⟩
theorem ok_read_polynomial (T : Tx K mg c f14 f15 f16 f17 f18 f19 f20 f21 f23 f24 f25 f26 f27 f28 f29 f30 f31 f32 f33 d14 d15 d16 d17 d18 d19 d20 d21 d23 d24 d25 d26 d27 d28 d29 d30 d31 d32 d33) : FnOk P w K mg base (L2.CX P w) 5 f21 d21 ["text"] (spX (W0 K c) 1 m_read_polynomial mx_read_polynomial) := by
  have G_read_terms := ok_read_terms (P := P) (w := w) (base := base) (c := c) T
  have G_written := ok_written (P := P) (w := w) (base := base) (c := c) T
  refine ev_fnX (c := c) (b := b_read_polynomial) (bx := xb_read_polynomial) T.F_read_polynomial sc_read_polynomial rfl rfl rfl rfl fun cdv A outer s H E hr => by
    have tk := takes_of (X := cxOf (L2.CX P w) P w K mg base N_read_polynomial "read_polynomial" (defScope (top 21)) f21 cdv A outer s H E) rfl rfl rfl rfl
    refine ⟨_, _, _, (xb_cons (xs_if (et_not (et_val (ev_isi (by rfl) T.Z_isinstance (ea_cons (ev_var 0) (ea_cons (ev_ty_str (by rfl) T.Z_str) ea_nil))))) (xb_one (xs_raise tk PySem.F.excBase_ValueError T.X_NoText T.M_NoText T.K_NoText (raises_own T.S_NoText T.Y_NoText) (by rfl))) xb_nil)
    (xb_cons (xs_of (es_setLc 1 [] [] rfl sc_read_polynomial.nd (sw_true rfl rfl rfl (by decide +kernel)) (ei_rng1 (by rfl) T.Z_range (ea_cons (ev_add (ev_globI (by rfl) T.M_MOST_POWER.choose_spec) ev_int) ea_nil)) (blkOk_by (N := N_read_polynomial) (sc := defScope (top 21)) (own := [("k", 2)]) (by decide +kernel)) (fun _ _ _ _ _ => (eg_name (ws := ([("k", 2)] : List (Str × Nat)).map (·.2)) 2 sc_read_polynomial.nd)) (fun _ _ _ _ _ => ef_nil) (fun _ _ _ _ _ => ev_int)))
    (xb_cons (xs_for (passes_of rfl) rfl (xi_seq (xe_call tk G_read_terms L_read_terms LX_read_terms (hr.mono (by decide)) (by rfl) T.M_read_terms T.F_read_terms.kp T.B_read_terms (xa_of (ea_cons (ev_split (ev_var 0) ev_str) ea_nil)))) (eg_tup rfl (egs_cons (eg_name (ws := [3, 4]) 3 sc_read_polynomial.nd) (egs_cons (eg_name (ws := [3, 4]) 4 sc_read_polynomial.nd) egs_nil))) (xb_one (xs_of (es_augSAdd 1 (ev_var 4) (ev_var 3)))))
    (xb_cons (xs_of (es_while (passes_of rfl) (et_w (ew_and (et_ne hr.units (ev_var 1) (ev_lst ea_nil)) (ew_and1 (et_eq hr.units (ev_idx (ev_var 1) (ev_neg ev_int)) ev_int)))) (eb_one (es_expr (ev_pop 1)))))
    (xb_cons (xs_if (et_ne hr.units (ev_call G_written L_written (hr.mono (by decide)) (by rfl) T.M_written T.F_written.kp T.B_written (ea_cons (ev_var 1) ea_nil)) (ev_var 0)) (xb_one (xs_raise tk PySem.F.excBase_ValueError T.X_NoText T.M_NoText T.K_NoText (raises_own T.S_NoText T.Y_NoText) (by rfl))) xb_nil)
    (xb_one (xs_of (es_ret (ev_move 1))))))))), ?_⟩
    exact ⟨rfl, rfl⟩
theorem ok_u_law_told (T : Tx K mg c f14 f15 f16 f17 f18 f19 f20 f21 f23 f24 f25 f26 f27 f28 f29 f30 f31 f32 f33 d14 d15 d16 d17 d18 d19 d20 d21 d23 d24 d25 d26 d27 d28 d29 d30 d31 d32 d33) : FnOk P w K mg base CX0 6 f31 d31 ["_law_thing"] (spPure (W0 K c) 1 m_u_law_told) := by
  have G_read_polynomial := ok_read_polynomial (P := P) (w := w) (base := base) (c := c) T
  refine ev_fn (c := c) (b := b_u_law_told) T.F_u_law_told sc_u_law_told rfl rfl rfl fun cdv A outer s H E hr => by
    refine ⟨_, _, (eb_cons (es_tryAs 1 rfl rfl sc_u_law_told.nd ⟨by rfl, by decide, .inl T.M_BranchError⟩ takes0 T.EX_BranchError (fun Wx pn xe tk => (xb_one (xs_ret (xe_call tk G_read_polynomial L_read_polynomial LX_read_polynomial (hr.mono (by decide)) (by rfl) T.M_read_polynomial T.F_read_polynomial.kp T.B_read_polynomial (xa_of (ea_cons (ev_var 0) ea_nil)))))) (fun a oe c0 D0 pn hcs hD hz hv => (eb_cons (es_if (et_val (ev_isX T.SF hD (hD ▸ T.XC _ hcs) hz hv (by rfl) T.Z_isinstance (ea_cons (ev_var 1) (ea_cons (ev_tup (ea_cons (ev_cl "NoPolynomial" _ (wx_cls _ (by decide)) (by rfl) T.M_NoPolynomial) (ea_cons (ev_cl "NoPrime" _ (wx_cls _ (by decide)) (by rfl) T.M_NoPrime) (ea_cons (ev_cl "NoRow" _ (wx_cls _ (by decide)) (by rfl) T.M_NoRow) (ea_cons (ev_cl "NoSize" _ (wx_cls _ (by decide)) (by rfl) T.M_NoSize) (ea_cons (ev_cl "NotPlain" _ (wx_cls _ (by decide)) (by rfl) T.M_NotPlain) (ea_cons (ev_cl "NoTower" _ (wx_cls _ (by decide)) (by rfl) T.M_NoTower) (ea_cons (ev_cl "TooDeep" _ (wx_cls _ (by decide)) (by rfl) T.M_TooDeep) ea_nil)))))))) ea_nil)))) (eb_one (es_ret ev_str)) eb_nil)
    (eb_one (es_if (et_w (ew_or (et_not (et_val (ev_isX T.SF hD (hD ▸ T.XC _ hcs) hz hv (by rfl) T.Z_isinstance (ea_cons (ev_var 1) (ea_cons (ev_cl "NoText" _ (wx_cls _ (by decide)) (by rfl) T.M_NoText) ea_nil))))) (ew_or1 (et_not (et_val (ev_isX T.SF hD (hD ▸ T.XC _ hcs) hz hv (by rfl) T.Z_isinstance (ea_cons (ev_var 1) (ea_cons (ev_ty_ValueError (by rfl) T.Z_ValueError) ea_nil)))))))) (eb_one (es_ret ev_str)) eb_nil)))))
    (eb_one (es_ret ev_non))), ?_⟩
    rfl
theorem ok_law (T : Tx K mg c f14 f15 f16 f17 f18 f19 f20 f21 f23 f24 f25 f26 f27 f28 f29 f30 f31 f32 f33 d14 d15 d16 d17 d18 d19 d20 d21 d23 d24 d25 d26 d27 d28 d29 d30 d31 d32 d33) : FnOk P w K mg base CX0 7 f33 d33 ["_law_script"] (spPure (W0 K c) 1 m_law) := by
  have G_u_law_bag := ok_u_law_bag (P := P) (w := w) (base := base) (c := c) T
  have G_u_law_changed := ok_u_law_changed (P := P) (w := w) (base := base) (c := c) T
  have G_u_law_due := ok_u_law_due (P := P) (w := w) (base := base) (c := c) T
  have G_u_law_polynomial := ok_u_law_polynomial (P := P) (w := w) (base := base) (c := c) T
  have G_u_law_told := ok_u_law_told (P := P) (w := w) (base := base) (c := c) T
  have G_u_law_written := ok_u_law_written (P := P) (w := w) (base := base) (c := c) T
  refine ev_fn (c := c) (b := b_law) T.F_law sc_law rfl rfl rfl fun cdv A outer s H E hr => by
    refine ⟨_, _, (eb_cons (es_for PassesOwn.never rfl (ei_rng3 (by rfl) T.Z_range (ea_cons ev_int (ea_cons (ev_max2 rfl (by rfl) T.Z_max (ea_cons ev_int (ea_cons (ev_min2 rfl (by rfl) T.Z_min (ea_cons ev_int (ea_cons (ev_len (by rfl) T.Z_len (ea_cons (ev_var 0) ea_nil)) ea_nil))) ea_nil))) (ea_cons ev_int ea_nil)))) (eg_name (ws := [1]) 1 sc_law.nd) (eb_cons (es_set 2 sc_law.nd (ev_call G_u_law_written L_u_law_written (hr.mono (by decide)) (by rfl) T.M_u_law_written T.F_u_law_written.kp T.B_u_law_written (ea_cons (ev_callT G_u_law_polynomial L_u_law_polynomial (hr.mono (by decide)) (by rfl) T.M_u_law_polynomial T.F_u_law_polynomial.kp T.B_u_law_polynomial (ev_call G_u_law_bag L_u_law_bag (hr.mono (by decide)) (by rfl) T.M_u_law_bag T.F_u_law_bag.kp T.B_u_law_bag (ea_cons (ev_var 0) (ea_cons (ev_var 1) ea_nil))) ea_nil) ea_nil)))
    (eb_cons (es_set 3 sc_law.nd (ev_callT2 G_u_law_changed L_u_law_changed (hr.mono (by decide)) (by rfl) T.M_u_law_changed T.F_u_law_changed.kp T.B_u_law_changed (ev_var 2) (ev_call G_u_law_bag L_u_law_bag (hr.mono (by decide)) (by rfl) T.M_u_law_bag T.F_u_law_bag.kp T.B_u_law_bag (ea_cons (ev_var 0) (ea_cons (ev_add (ev_var 1) ev_int) ea_nil))) ea_nil))
    (eb_one (es_if (et_w (ew_or (et_ne hr.units (ev_call G_u_law_told L_u_law_told (hr.mono (by decide)) (by rfl) T.M_u_law_told T.F_u_law_told.kp T.B_u_law_told (ea_cons (ev_var 3) ea_nil)) (ev_call G_u_law_due L_u_law_due (hr.mono (by decide)) (by rfl) T.M_u_law_due T.F_u_law_due.kp T.B_u_law_due (ea_cons (ev_var 3) ea_nil))) (ew_or (et_ne hr.units (ev_call G_u_law_told L_u_law_told (hr.mono (by decide)) (by rfl) T.M_u_law_told T.F_u_law_told.kp T.B_u_law_told (ea_cons (ev_var 2) ea_nil)) (ev_call G_u_law_due L_u_law_due (hr.mono (by decide)) (by rfl) T.M_u_law_due T.F_u_law_due.kp T.B_u_law_due (ea_cons (ev_var 2) ea_nil))) (ew_or1 (et_isN (ev_call G_u_law_due L_u_law_due (hr.mono (by decide)) (by rfl) T.M_u_law_due T.F_u_law_due.kp T.B_u_law_due (ea_cons (ev_var 2) ea_nil)) ev_non))))) (eb_one (es_ret ev_bl)) eb_nil)))))
    (eb_cons (es_set 4 sc_law.nd (ev_lst (ea_cons ev_non (ea_cons ev_int (ea_cons ev_bl (ea_cons (ev_lst ea_nil) (ea_cons (ev_lst (ea_cons ev_str ea_nil)) (ea_cons ev_str (ea_cons ev_str (ea_cons ev_str (ea_cons ev_str (ea_cons ev_str (ea_cons ev_str (ea_cons ev_str (ea_cons ev_str (ea_cons ev_str (ea_cons ev_str (ea_cons ev_str (ea_cons ev_str (ea_cons ev_str ea_nil))))))))))))))))))))
    (eb_cons (es_set 4 sc_law.nd (ev_add (ev_var 4) (ev_lst (ea_cons ev_str (ea_cons ev_str (ea_cons ev_str (ea_cons ev_str (ea_cons ev_str (ea_cons ev_str (ea_cons ev_str (ea_cons ev_str (ea_cons ev_str (ea_cons ev_str (ea_cons ev_str (ea_cons ev_str (ea_cons ev_str ea_nil))))))))))))))))
    (eb_cons (es_set 4 sc_law.nd (ev_add (ev_var 4) (ev_lst (ea_cons ev_str (ea_cons ev_str (ea_cons ev_str (ea_cons ev_str (ea_cons ev_str (ea_cons (ev_mulS ev_str ev_int) (ea_cons (ev_add ev_str (ev_mulS ev_str ev_int)) (ea_cons ev_str (ea_cons ev_str (ea_cons ev_str (ea_cons ev_str ea_nil))))))))))))))
    (eb_one (es_ret (ev_eq hr.units (ev_lc [] [] rfl sc_law.nd (ei_seq (ev_var 4)) (blkOk_by (N := N_law) (sc := defScope (top 33)) (own := [("_law_thing", 5)]) (by decide +kernel)) (fun _ _ _ _ _ => (eg_name (ws := ([("_law_thing", 5)] : List (Str × Nat)).map (·.2)) 5 sc_law.nd)) (fun _ _ _ _ _ => (ef_one (et_notN (ev_call G_u_law_told L_u_law_told (hr.mono (by decide)) (by rfl) T.M_u_law_told T.F_u_law_told.kp T.B_u_law_told (ea_cons (ev_var 5) ea_nil)) ev_non))) (fun _ _ _ _ _ => (ev_var 5))) (ev_lst ea_nil)))))))), ?_⟩
    rfl
end

end Tr
/-! polynomials as texts: what the program's readers and writers tell, on lists of signs. -/
namespace Tr
open PySem L2 TL NumText
/-! ### plain functions -/
def plain (a : List Nat) : Bool := decide (1 ≤ a.length) && decide (a.length ≤ 60) && !(decide (a.take 1 = [48]) && !decide (a = [48])) && a.all fun c => decide (48 ≤ c ∧ c ≤ 57)
def rdPow (a : List Nat) : Option Nat := if a = [120] then some 1 else if a.take 2 = [120, 94] ∧ plain (a.drop 2) = true ∧ digitsVal (a.drop 2) ≤ 12 then some (digitsVal (a.drop 2)) else none
def rdTerm (a : List Nat) : Option (Nat × Nat) :=
  if plain a = true then some (digitsVal a, 0) else
    match TL.par [42] [] a with
    | none => (rdPow a).map fun p => (1, p)
    | some (b, c) => if plain b = true then (rdPow c).map fun p => (digitsVal b, p) else none
def rdRest : List (List Nat) → Option (List (Int × Nat))
  | [] => some []
  | [_] => none
  | s :: t :: r => if s = [43] ∨ s = [45] then
      match rdTerm t with
      | some (n, p) => (rdRest r).map fun l => ((if s = [45] then 0 - (n : Int) else (n : Int)), p) :: l
      | none => none
    else none
def rdTerms : List (List Nat) → Option (List (Int × Nat))
  | [] => none
  | w :: r =>
    match rdTerm (if w.take 1 = [45] then w.drop 1 else w) with
    | some (n, p) => (rdRest r).map fun l => ((if w.take 1 = [45] then -1 else 1) * (n : Int), p) :: l
    | none => none
/-- the terms put together -/
def sumT : List (Int × Nat) → List Int → List Int
  | [], f => f
  | (n, p) :: r, f => sumT r (f.set p (nth f p + n))
def letT (p : Nat) : List Nat := if p = 1 then [120] else [120, 94] ++ numL p
def termT (n p : Nat) : List Nat := if p = 0 then numL n else if n = 1 then letT p else numL n ++ [42] ++ letT p
/-- one term more behind a text -/
def stepT (w : List Nat) (c : Int) (p : Nat) : List Nat :=
  if c = 0 then w else w ++ (if w = [] then (if c < 0 then [45] else []) else (if c < 0 then [32, 45, 32] else [32, 43, 32])) ++ termT c.natAbs p
/-- the text of the powers from n - 1 down to k -/
def wrT (f : List Int) : Nat → List Nat
  | 0 => []
  | k + 1 => stepT (wrT f k) (nth f (f.length - 1 - k)) (f.length - 1 - k)
def wr (f : List Int) : List Nat := if wrT f f.length = [] then [48] else wrT f f.length
def z13 : List Int := List.replicate 13 0
theorem z13_len : z13.length = 13 := rfl
theorem z13_nth (k : Nat) : nth z13 k = 0 := nth_rep
def rdPoly (a : List Nat) : Option (List Int) :=
  match rdTerms (spl [32] 0 [] a) with
  | some ts => if wr (trim (sumT ts z13)) = a then some (trim (sumT ts z13)) else none
  | none => none
/-! ### bounds -/
theorem plain_len {a : List Nat} (h : plain a = true) : 1 ≤ a.length ∧ a.length ≤ 60 := by
  simp only [plain, Bool.and_eq_true, decide_eq_true_eq] at h
  exact h.1.1
theorem plain_digits {a : List Nat} (h : plain a = true) : AllDigits a := by
  simp only [plain, Bool.and_eq_true, List.all_eq_true, decide_eq_true_eq] at h
  exact h.2
theorem plain_ne {a : List Nat} (h : plain a = true) : a ≠ [] := by
  have := plain_len h
  intro z
  subst z
  simp at this
theorem digits_lt : ∀ (a : List Nat) (v : Nat), AllDigits a → a.foldl (fun acc c => acc * 10 + (c - 48)) v < (v + 1) * 10 ^ a.length
  | [], v, _ => by simp
  | c :: r, v, h => by
    have hc := h c (by simp)
    have ih := digits_lt r (v * 10 + (c - 48)) fun d hd => h d (by simp [hd])
    rw [List.foldl_cons, List.length_cons, Nat.pow_succ]
    refine Nat.lt_of_lt_of_le ih ?_
    rw [Nat.mul_comm (10 ^ r.length) 10, ← Nat.mul_assoc]
    exact Nat.mul_le_mul_right _ (by omega)
theorem digitsVal_lt {a : List Nat} (h : AllDigits a) : digitsVal a < 10 ^ a.length := by simpa [digitsVal] using digits_lt a 0 h
theorem plain_lt {a : List Nat} (h : plain a = true) : digitsVal a < 10 ^ 60 := Nat.lt_of_lt_of_le (digitsVal_lt (plain_digits h)) (Nat.pow_le_pow_right (by decide) (plain_len h).2)
theorem rdPow_le {a : List Nat} {p : Nat} (h : rdPow a = some p) : p ≤ 12 := by
  unfold rdPow at h
  split at h
  · cases h; decide
  · split at h
    · rename_i q
      cases h
      exact q.2.2
    · cases h
theorem rdTerm_le {a : List Nat} {n p : Nat} (h : rdTerm a = some (n, p)) : n < 10 ^ 60 ∧ p ≤ 12 := by
  unfold rdTerm at h
  split at h
  · rename_i q
    cases h
    exact ⟨plain_lt q, by decide⟩
  · split at h
    · cases e : rdPow a with
      | none => rw [e] at h; cases h
      | some q =>
        rw [e] at h
        cases h
        exact ⟨by decide, rdPow_le e⟩
    · rename_i b c _
      split at h
      · rename_i q
        cases e : rdPow c with
        | none => rw [e] at h; cases h
        | some q2 =>
          rw [e] at h
          cases h
          exact ⟨plain_lt q, rdPow_le e⟩
      · cases h
/-! ### the defs -/
section
variable {a : List Nat}
theorem ev_plain (h : asc a = true) (hl : a.length ≤ 1000000) : m_is_plain_number [sd a] = some ⟨.O, .bl (plain a)⟩ := by
  have hc : lc_is_plain_number_1 [some ⟨.O, false, sd a⟩, none] = some (⟨.O, dl D.bl (a.map fun c => decide (c ∈ figs))⟩, [some ⟨.O, false, sd a⟩, none]) :=
    sLc_dl (f := fun c : Nat => sd [c]) (h := D.bl) (xs := a) (fun c => [none, some ⟨.O, false, sd [c]⟩]) (fun c => decide (c ∈ figs))
      (by simp [sx_cps]) (sizeN hl) (by simp [hide, view1, List.mapIdx_cons]) (by simp [hide, view1, wipeE, List.mapIdx_cons]) (fun c hc => by simp [k_figs])
  have ha : ∀ (m : Mode) (bs : List Bool), opAll [⟨m, dl D.bl bs⟩] = some ⟨.O, .bl (bs.all id)⟩ := fun m bs => by
    have : ∀ bs : List Bool, bls? (bs.map D.bl) = some bs := fun bs => by induction bs with
      | nil => rfl
      | cons b r ih => simp [bls?, ih]
    simp [opAll, dl, this]
  have lz : ok (a.length ≤ sizeLine) = true := ok_of (sizeN hl)
  have ed : ((a.map fun c => decide (c ∈ figs)).all id) = a.all fun c => decide (48 ≤ c ∧ c ≤ 57) := by
    rw [List.all_map]
    congr 1
    funext c
    simp only [Function.comp, id]
    exact decide_eq_decide.mpr (by simp [figs]; omega)
  by_cases hn : a = []
  · subst hn
    simp only [m_is_plain_number, fnSem, b_is_plain_number]
    simp [plain]
  · obtain ⟨c, ht, ix⟩ : ∃ c, a.take 1 = [c] ∧ opIdx [⟨.O, sd a⟩, ⟨.O, .int 0⟩] = some ⟨.O, sd [c]⟩ := by
      cases a with
      | nil => exact absurd rfl hn
      | cons c r => exact ⟨c, rfl, idx_sd (m := .O) (p := .O) (l := c :: r) (k := 0) rfl hl⟩
    have hc1 : asc [c] = true := by rw [← ht]; exact asc_take h 1
    have h0 : asc [48] = true := by decide
    have e1 := opEq_ss (m := .O) (p := .O) hc1 h0
    have e2 := opNe_ss (m := .O) (p := .O) h h0
    have l1 : 1 ≤ a.length := by cases a with
      | nil => exact absurd rfl hn
      | cons c r => simp
    have l1i : (1 : Int) ≤ (a.length : Int) := by omega
    simp only [m_is_plain_number, fnSem, b_is_plain_number, k_0]
    by_cases q : a.length ≤ 60
    · have qi : (a.length : Int) ≤ 60 := by omega
      by_cases q1 : c = 48
      · by_cases q2 : a = [48]
        · have q2' := eq_true q2
          simp [lz, hc, ha, ed, ix, e1, e2, l1, l1i, q, qi, q1, q2', plain, ht]
        · simp [lz, hc, ha, ed, ix, e1, e2, l1, l1i, q, qi, q1, q2, plain, ht]
      · simp [lz, hc, ha, ed, ix, e1, e2, l1, l1i, q, qi, q1, plain, ht]
    · have qi : ¬ (a.length : Int) ≤ 60 := by omega
      simp [lz, hc, ha, ed, ix, e1, e2, l1, l1i, q, qi, plain, ht]
theorem ev_read_power (h : asc a = true) (hl : a.length ≤ 1000000) : m_read_power [sd a] = (rdPow a).map fun (p : Nat) => ⟨.O, .int (p : Int)⟩ := by
  have hx : asc [120] = true := by decide
  have hxh : asc [120, 94] = true := by decide
  have e1 := opEq_ss (m := .O) (p := .O) h hx
  have e2 := opNe_ss (m := .O) (p := .O) (asc_take h 2) hxh
  have ep := ev_plain (asc_drop h 2) (by rw [List.length_drop]; omega)
  have ct : L2.cutS (sx a) none (some 2) = sx (a.take 2) := cutS_to 2
  have cf : L2.cutS (sx a) (some 2) none = sx (a.drop 2) := cutS_from 2
  have lz : ok ((sx a).length ≤ sizeLine) = true := ok_of (by rw [sx_len]; exact sizeN hl)
  have lz2 : ok (a.length ≤ sizeLine) = true := ok_of (sizeN hl)
  simp only [m_read_power, fnSem, b_read_power, k_x, k_xh]
  by_cases q : a = [120]
  · have q' := eq_true q
    simp [e1, q', rdPow]
  · by_cases q1 : a.take 2 = [120, 94]
    · by_cases q2 : plain (a.drop 2) = true
      · have ei := opIntS_d (m := .O) (plain_digits q2) (plain_ne q2) (by have := plain_len q2; omega)
        by_cases q3 : digitsVal (a.drop 2) ≤ 12
        · have q4 : ¬ (12 : Int) < (digitsVal (a.drop 2) : Int) := by omega
          simp [e1, q, e2, q1, ep, q2, ct, cf, lz, lz2, ei, q3, q4, rdPow]
        · have q4 : (12 : Int) < (digitsVal (a.drop 2) : Int) := by omega
          simp [e1, q, e2, q1, ep, q2, ct, cf, lz, lz2, ei, q3, q4, rdPow]
      · simp [e1, q, e2, q1, ep, q2, ct, cf, lz, lz2, rdPow]
    · simp [e1, q, e2, q1, ep, ct, cf, lz, lz2, rdPow]
theorem par_asc {S : List Nat} : ∀ {a acc b c : List Nat}, TL.par S acc a = some (b, c) → asc acc = true → asc a = true → asc b = true ∧ asc c = true ∧ b.length ≤ acc.length + a.length ∧ c.length ≤ a.length
  | [], acc, b, c, h, _, _ => by cases h
  | x :: r, acc, b, c, h, h1, h2 => by
    unfold TL.par at h
    split at h
    · cases h
      exact ⟨h1, asc_drop h2 _, by simp, by simp⟩
    · have h2 : asc [x] = true ∧ asc r = true := by simp at h2 ⊢; exact h2
      obtain ⟨q1, q2, q3, q4⟩ := par_asc h (by rw [asc_app, h1, h2.1]; rfl) h2.2
      simp at q3 q4 ⊢
      exact ⟨q1, q2, by omega, by omega⟩
theorem ev_read_term (h : asc a = true) (hl : a.length ≤ 100000) : m_read_term [sd a] = (rdTerm a).map fun (t : Nat × Nat) => ⟨.O, .tup [.int (t.1 : Int), .int (t.2 : Int)]⟩ := by
  have ep := ev_plain h (by omega)
  have ek := ev_read_power h (by omega)
  simp only [m_read_term, fnSem, b_read_term, k_star, k_empty]
  by_cases q : plain a = true
  · have ei := opIntS_d (m := .O) (plain_digits q) (plain_ne q) (by have := plain_len q; omega)
    simp [ep, q, ei, rdTerm]
  · have op := opPart_sx (m := .O) (p := .O) (a := a) (by omega)
    cases e : TL.par [42] [] a with
    | none =>
      rw [e] at op
      cases er : rdPow a with
      | none =>
        rw [er] at ek
        simp [ep, q, op, ek, rdTerm, e, er, D.flats]
      | some p =>
        rw [er] at ek
        simp [ep, q, op, ek, rdTerm, e, er, D.flats]
    | some bc =>
      obtain ⟨b, c⟩ := bc
      rw [e] at op
      obtain ⟨q1, q2, q3, q4⟩ := par_asc e rfl h
      simp at q3
      have epb := ev_plain q1 (by omega)
      have ekc := ev_read_power q2 (by omega)
      by_cases q5 : plain b = true
      · have ei := opIntS_d (m := .O) (plain_digits q5) (plain_ne q5) (by have := plain_len q5; omega)
        cases er : rdPow c with
        | none =>
          rw [er] at ekc
          simp [ep, q, op, rdTerm, e, er, D.flats, epb, q5, ei, ekc]
        | some p =>
          rw [er] at ekc
          simp [ep, q, op, rdTerm, e, er, D.flats, epb, q5, ei, ekc]
      · simp [ep, q, op, rdTerm, e, D.flats, epb, q5]
end
def tmD (t : Int × Nat) : D := .tup [.int t.1, .int (t.2 : Int)]
/-- every word is read -/
def wordsOk (ws : List (List Nat)) : Prop := ∀ w ∈ ws, asc w = true ∧ w.length ≤ 100000
theorem rdRest_even : ∀ {r : List (List Nat)} {ts : List (Int × Nat)}, rdRest r = some ts → r.length = 2 * ts.length
  | [], _, h => by cases h; rfl
  | [_], _, h => by cases h
  | s :: t :: r, ts, h => by
    unfold rdRest at h
    split at h
    · cases e : rdTerm t with
      | none => rw [e] at h; cases h
      | some q =>
        rw [e] at h
        cases e2 : rdRest r with
        | none => rw [e2] at h; cases h
        | some l =>
          rw [e2] at h
          cases h
          have := rdRest_even e2
          simp; omega
    · cases h
theorem rdRest_step {s t : List Nat} {r : List (List Nat)} {ts : List (Int × Nat)} (h : rdRest (s :: t :: r) = some ts) : (s = [43] ∨ s = [45]) ∧ ∃ n p l, rdTerm t = some (n, p) ∧ rdRest r = some l ∧ ts = ((if s = [45] then 0 - (n : Int) else (n : Int)), p) :: l := by
  unfold rdRest at h
  split at h
  · rename_i q
    cases e : rdTerm t with
    | none => rw [e] at h; cases h
    | some np =>
      obtain ⟨n, p⟩ := np
      rw [e] at h
      cases e2 : rdRest r with
      | none => rw [e2] at h; cases h
      | some l =>
        rw [e2] at h
        cases h
        exact ⟨q, n, p, l, rfl, rfl, rfl⟩
  · cases h
theorem in_pm {m p : Mode} {s : List Nat} (h : asc s = true) : opIn true [⟨m, sd s⟩, ⟨p, .tup [sd [43], sd [45]]⟩] = some ⟨.O, .bl (!(decide (s = [43]) || decide (s = [45])))⟩ := by
  have e : ∀ x y : List Nat, PyData.eqv (sd x).py (sd y).py = decide (x = y) := fun x y => by
    show PyData.eqv (.str (sx x)) (.str (sx y)) = _
    rw [eqv_str]
    simp only [sx_inj]
  simp only [opIn, D.atom, List.all_cons, List.all_nil, Bool.and_self, if_true, List.any_cons, List.any_nil, e, Bool.or_false, Bool.true_bne]
  have c : ∀ x : List Nat, decide (x = s) = decide (s = x) := fun x => decide_eq_decide.mpr eq_comm
  rw [c, c]
theorem idx_w {ws : List (List Nat)} {m p : Mode} {k : Nat} {w : List Nat} (h : ws[k]? = some w) : opIdx [⟨m, dl sd ws⟩, ⟨p, .int (k : Int)⟩] = some ⟨.O, sd w⟩ := by
  rw [idx_dl h]; rfl
theorem rest_range {N : Nat} (h : N ≤ 100000) : Builtin.Range.rangeSize 1 ((2 * N + 1 : Nat) : Int) 2 = N := by
  unfold Builtin.Range.rangeSize
  rw [if_pos (by decide)]
  split <;> omega
theorem rdRest_get {r : List (List Nat)} : ∀ {j : Nat} {ts : List (Int × Nat)}, rdRest r = some ts → j < ts.length → ∃ s t n p, r[2 * j]? = some s ∧ r[2 * j + 1]? = some t ∧ (s = [43] ∨ s = [45]) ∧ rdTerm t = some (n, p) ∧ ts[j]? = some ((if s = [45] then 0 - (n : Int) else (n : Int)), p) := by
  intro j
  induction j generalizing r with
  | zero =>
    intro ts h hj
    cases r with
    | nil => cases h; simp at hj
    | cons s r =>
      cases r with
      | nil => cases h
      | cons t r =>
        obtain ⟨q, n, p, l, e1, e2, rfl⟩ := rdRest_step h
        exact ⟨s, t, n, p, rfl, rfl, q, e1, rfl⟩
  | succ j ih =>
    intro ts h hj
    cases r with
    | nil => cases h; simp at hj
    | cons s r =>
      cases r with
      | nil => cases h
      | cons t r =>
        obtain ⟨q, n, p, l, e1, e2, rfl⟩ := rdRest_step h
        obtain ⟨s', t', n', p', h1, h2, h3, h4, h5⟩ := ih (r := r) e2 (by simp at hj; omega)
        exact ⟨s', t', n', p', by rw [show 2 * (j + 1) = 2 * j + 1 + 1 by omega]; exact h1, by rw [show 2 * (j + 1) + 1 = 2 * j + 1 + 1 + 1 by omega]; exact h2, h3, h4, h5⟩
theorem ev_read_terms {w : List Nat} {r : List (List Nat)} {ts : List (Int × Nat)} (hw : wordsOk (w :: r)) (hl : r.length ≤ 100000) (h : rdTerms (w :: r) = some ts) : m_read_terms [dl sd (w :: r)] = some ⟨.O, dl tmD ts⟩ := by
  obtain ⟨aw, lw⟩ := hw w (by simp)
  simp only [rdTerms] at h
  cases e1 : rdTerm (if w.take 1 = [45] then w.drop 1 else w) with
  | none => rw [e1] at h; cases h
  | some np =>
    obtain ⟨n, p⟩ := np
    rw [e1] at h
    cases e2 : rdRest r with
    | none => rw [e2] at h; cases h
    | some l =>
      rw [e2] at h
      cases h
      have ev := rdRest_even e2
      obtain ⟨sg, hsg⟩ : ∃ sg : Int, sg = (if w.take 1 = [45] then -1 else 1) := ⟨_, rfl⟩
      obtain ⟨fst, hfst⟩ : ∃ fst, fst = (if w.take 1 = [45] then w.drop 1 else w) := ⟨_, rfl⟩
      rw [← hfst] at e1
      have af : asc fst = true := by
        rw [hfst]; split
        · exact asc_drop aw 1
        · exact aw
      have lf : fst.length ≤ 100000 := by
        rw [hfst]; split
        · rw [List.length_drop]; omega
        · exact lw
      have et := ev_read_term af lf
      rw [e1] at et
      obtain ⟨hn, hp⟩ := rdTerm_le e1
      have ln : (w :: r).length = 2 * l.length + 1 := by simp; omega
      have bo : bitOk sg (n : Int) = true := bitOk_of (n := 1) (m := 200) (by rw [hsg]; split <;> decide) (by
        rw [Int.natAbs_natCast]
        exact Nat.lt_of_lt_of_le hn (by decide)) (by decide)
      obtain ⟨ρ', e, x3, x4, x6, rfl⟩ := sFor_list (src := iRange3 (sCons (sCon (.int 1)) (sCons (sApp opLen (sCons (sVar 0) sNil)) (sCons (sCon (.int 2)) sNil)))) (g := sGName 6) (b := w_read_terms_1) (f := fun (k : Nat) => D.int (1 + (k : Int) * 2)) (xs := List.range l.length)
        (ρ := [some ⟨.F, false, dl sd (w :: r)⟩, some ⟨.O, false, .int sg⟩, some ⟨.O, false, sd fst⟩, some ⟨.O, false, .int (n : Int)⟩, some ⟨.O, false, .int (p : Int)⟩, some ⟨.O, false, dl tmD [(sg * (n : Int), p)]⟩, none])
        (fun j ρ => ∃ x3 x4 x6, ρ = [some ⟨.F, false, dl sd (w :: r)⟩, some ⟨.O, false, .int sg⟩, some ⟨.O, false, sd fst⟩, x3, x4, some ⟨.O, false, dl tmD ((sg * (n : Int), p) :: l.take j)⟩, x6])
        (iRange3_gen (m1 := .O) (m2 := .O) (m3 := .O) (N := l.length) (i := 1) (j := ((2 * l.length + 1 : Nat) : Int)) (c := 2) (by rw [← ln]; simp; rfl) (by decide) (by omega) (by decide) (by decide) (rest_range (by omega)) (by omega)) ⟨some ⟨.O, false, .int (n : Int)⟩, some ⟨.O, false, .int (p : Int)⟩, none, by simp⟩ (by
          rintro j k ρ hk ⟨x3, x4, x6, rfl⟩
          have hj : j < l.length := by have := lt_of_get hk; simpa using this
          rw [List.getElem?_range hj] at hk
          cases hk
          obtain ⟨s, t, n', p', h1, h2, h3, h4, h5⟩ := rdRest_get e2 hj
          obtain ⟨as, ls⟩ := hw s (by simp [List.mem_of_getElem? h1])
          obtain ⟨at', lt⟩ := hw t (by simp [List.mem_of_getElem? h2])
          obtain ⟨kk, hkk⟩ : ∃ kk : Int, kk = 1 + (j : Int) * 2 := ⟨_, rfl⟩
          have ek : ((2 * j + 1 : Nat) : Int) = kk := by omega
          have ek2 : ((2 * j + 2 : Nat) : Int) = kk + 1 := by omega
          have i1 := fun m p => idx_w (ws := w :: r) (m := m) (p := p) (k := 2 * j + 1) (w := s) h1
          have i2 := fun m p => idx_w (ws := w :: r) (m := m) (p := p) (k := 2 * j + 2) (w := t) h2
          rw [ek] at i1
          rw [ek2] at i2
          have ir := fun m p => in_pm (m := m) (p := p) as
          have et := ev_read_term at' lt
          rw [h4] at et
          have nl : ¬ (kk + 1 = (((w :: r).length : Nat) : Int)) := by rw [ln]; omega
          have nl : ¬ (kk = (r.length : Int)) := by intro z; apply nl; simp; omega
          have am : asc [45] = true := by decide
          have e45 := fun m p => opEq_ss (m := m) (p := p) as am
          have sz : ok (((sg * (n : Int), p) :: l.take j).length < sizeLine) = true := ok_of (by have := sizeLine_big; simp; omega)
          have ap := fun (c : Int) (q : Nat) => apnd_O (lk := false) (h := tmD) (xs := (sg * (n : Int), p) :: l.take j) (x := (c, q))
          simp only [tmD, sz, if_true] at ap
          have tk : l.take (j + 1) = l.take j ++ [((if s = [45] then 0 - (n' : Int) else (n' : Int)), p')] := by rw [List.take_succ, h5]; rfl
          rw [← hkk]
          simp only [w_read_terms_1, k_plus, k_minus]
          by_cases q : s = [45]
          · have q' := eq_true q
            rw [if_pos q] at tk
            simp [i1, i2, ir, q', et, nl, e45, tk, ap]
          · have h3' : s = [43] := h3.resolve_right q
            have h3' := eq_true h3'
            rw [if_neg q] at tk
            simp [i1, i2, ir, q, h3', et, nl, e45, tk, ap])
      have e : lp_read_terms_1 _ = _ := e
      rw [List.length_range, List.take_length] at e
      have i0 := fun m p => idx_w (ws := w :: r) (m := m) (p := p) (k := 0) (w := w) rfl
      have i0 : ∀ m p, opIdx [⟨m, dl sd (w :: r)⟩, ⟨p, .int 0⟩] = some ⟨.O, sd w⟩ := i0
      have ct : L2.cutS (sx w) none (some 1) = sx (w.take 1) := cutS_to 1
      have cf : L2.cutS (sx w) (some 1) none = sx (w.drop 1) := cutS_from 1
      have lz : ok (w.length ≤ sizeLine) = true := ok_of (by exact sizeN (by omega : w.length ≤ 1000000))
      have am : asc [45] = true := by decide
      have e45 := fun m p => opEq_ss (m := m) (p := p) (asc_take aw 1) am
      simp only [m_read_terms, fnSem, b_read_terms, k_minus]
      have hd : ∀ c : Int, D.lst [.tup [.int c, .int (p : Int)]] = dl tmD [(c, p)] := fun _ => rfl
      by_cases q : w.take 1 = [45]
      · rw [if_pos q] at hsg hfst
        subst hsg hfst
        have q' := eq_true q
        rw [show (-1 : Int) * (n : Int) = -(n : Int) by omega] at e
        simp [-List.drop_one, i0, ct, cf, lz, e45, q', et, bo, hd, e]
      · rw [if_neg q] at hsg hfst
        subst hsg hfst
        rw [Int.one_mul] at e
        simp [i0, ct, cf, lz, e45, q, et, bo, hd, e]
theorem pop_il {y0 : Option Slot} {rest : Env} {xs : List Int} {a : Int} : sPop 1 (y0 :: some ⟨.O, false, il (xs ++ [a])⟩ :: rest) = some (⟨.O, .int a⟩, y0 :: some ⟨.O, false, il xs⟩ :: rest) := by
  simp [sPop, dl]
/-- noughts taken off the end -/
theorem pop_loop {y0 : Option Slot} {rest : Env} : ∀ (n : Nat) (xs : List Int), xs.length = n →
    sWhile (sAnd (sTest (sApp2 opNe (sVar 1) (sApp opLst sNil))) (sTest (sApp2 opEq (sApp2 opIdx (sVar 1) (sApp1 opNeg (sCon (.int 1)))) (sCon (.int 0))))) (sDrop (sPop 1)) (y0 :: some ⟨.O, false, il xs⟩ :: rest) = some (.nx (y0 :: some ⟨.O, false, il (trim xs)⟩ :: rest))
  | 0, xs, h => by
    obtain rfl : xs = [] := List.length_eq_zero_iff.mp h
    exact while_false (by simp [opNe_il0]; rfl)
  | n + 1, xs, h => by
    obtain ⟨ys, a, rfl⟩ : ∃ ys a, xs = ys ++ [a] := ⟨xs.dropLast, xs.getLast (by intro z; rw [z] at h; cases h), (List.dropLast_concat_getLast _).symm⟩
    have hy : ys.length = n := by simp at h; exact h
    have ne : ¬ (ys ++ [a] = []) := by simp
    have ix := fun m p => idx_last (m := m) (p := p) (f := D.int) (xs := ys) (x := a)
    have nr : ∀ m, nrm m (.int a) = ⟨.O, .int a⟩ := fun _ => rfl
    by_cases z : a = 0
    · subst z
      rw [trim_snoc0, while_step (ρ1 := y0 :: some ⟨.O, false, il (ys ++ [0])⟩ :: rest) (ρ2 := y0 :: some ⟨.O, false, il ys⟩ :: rest) (by simp [opNe_il0, ix, nr]) (by simp [sDrop_ap, pop_il])]
      exact pop_loop n ys hy
    · rw [trim_snoc z]
      exact while_false (by simp [opNe_il0, ix, nr, z])
theorem sumT_len : ∀ (ts : List (Int × Nat)) (f : List Int), (sumT ts f).length = f.length
  | [], _ => rfl
  | (n, p) :: r, f => by rw [sumT, sumT_len]; simp
theorem ev_sumT {y0 y2 : Option Slot} : ∀ (ts : List (Int × Nat)) (f : List Int) (x3 x4 : Option Slot), (∀ t ∈ ts, t.2 < f.length) → ∃ x3' x4',
    forGo (sGTup (sGCons (sGName 3) (sGCons (sGName 4) sGNil))) w_read_polynomial_1 (ts.map tmD) [y0, some ⟨.O, false, il f⟩, y2, x3, x4] = some (.nx [y0, some ⟨.O, false, il (sumT ts f)⟩, y2, x3', x4'])
  | [], f, x3, x4, _ => ⟨x3, x4, rfl⟩
  | (n, p) :: r, f, x3, x4, h => by
    have hp : p < f.length := h (n, p) (by simp)
    have i1 := intAt_il (m := .O) (lk := false) hp
    have p1 := putS_il (lk := false) (a := nth f p + n) hp
    obtain ⟨x3', x4', e⟩ := ev_sumT (y0 := y0) (y2 := y2) r (f.set p (nth f p + n)) (some ⟨.O, false, .int n⟩) (some ⟨.O, false, .int (p : Int)⟩) (fun t ht => by rw [List.length_set]; exact h t (by simp [ht]))
    refine ⟨x3', x4', ?_⟩
    rw [List.map_cons, forGo_cons]
    simp only [w_read_polynomial_1]
    simp [tmD, i1, p1, D.flats]
    rw [sumT]
    exact e
theorem numL_asc (n : Nat) : asc (numL n) = true := asc_of fun c hc => by have := numL_digits n c hc; omega
theorem letT_asc (p : Nat) : asc (letT p) = true := by
  unfold letT
  split
  · decide
  · rw [asc_app, numL_asc]; decide
theorem termT_asc (n p : Nat) : asc (termT n p) = true := by
  unfold termT
  split
  · exact numL_asc n
  · split
    · exact letT_asc p
    · rw [asc_app, asc_app, numL_asc, letT_asc]; decide
theorem letT_len {p : Nat} (h : p < 10 ^ 6) : (letT p).length ≤ 8 := by
  have := numL_len (k := 6) (by decide) h
  unfold letT
  split
  · simp
  · simp; omega
theorem termT_len {n p : Nat} (hn : n < 10 ^ 500) (hp : p < 10 ^ 6) : (termT n p).length ≤ 510 := by
  have h1 := numL_len (k := 500) (by decide) hn
  have h2 := letT_len hp
  unfold termT
  split
  · omega
  · split
    · omega
    · simp; omega
set_option exponentiation.threshold 3000
theorem big500 : (10 : Nat) ^ 500 ≤ 2 ^ 1900 := Nat.le_of_ble_eq_true rfl
theorem ev_letter_text {p : Nat} (h : p < 10 ^ 6) : m_letter_text [.int (p : Int)] = some ⟨.O, sd (letT p)⟩ := by
  have es := opStrI_n (m := .O) (n := p) (Nat.lt_of_lt_of_le h (Nat.le_of_ble_eq_true rfl))
  have l := numL_len (k := 6) (by decide) h
  have lz : ok (([120, 94] : List Nat).length + (numL p).length ≤ sizeLine) = true := ok_of (by have := sizeLine_big; simp; omega)
  have ea := opAdd_ss (m := .O) (p := .O) (a := [120, 94]) (b := numL p)
  rw [if_pos lz] at ea
  simp only [m_letter_text, fnSem, b_letter_text, k_x, k_xh]
  by_cases q : p = 1
  · subst q; simp [letT]
  · have q' : ¬ ((p : Int) = 1) := by omega
    simp [-opAdd_ss, q', q, es, ea, letT]
theorem ev_term_text {n p : Nat} (hn : n < 10 ^ 500) (hp : p < 10 ^ 6) : m_term_text [.int (n : Int), .int (p : Int)] = some ⟨.O, sd (termT n p)⟩ := by
  have es := opStrI_n (m := .O) (n := n) (Nat.lt_of_lt_of_le hn big500)
  have h1 := numL_len (k := 500) (by decide) hn
  have h2 := letT_len hp
  have el := ev_letter_text hp
  have ea := opAdd_ss (m := .O) (p := .O) (a := numL n) (b := [42])
  rw [if_pos (ok_of (by have := sizeLine_big; simp; omega))] at ea
  have eb := opAdd_ss (m := .O) (p := .O) (a := numL n ++ [42]) (b := letT p)
  rw [if_pos (ok_of (by have := sizeLine_big; simp; omega))] at eb
  simp only [m_term_text, fnSem, b_term_text, k_star]
  by_cases q : p = 0
  · have q' : (p : Int) = 0 := by omega
    simp [q', q, es, termT]
  · have q' : ¬ ((p : Int) = 0) := by omega
    by_cases q2 : n = 1
    · have q2' : (n : Int) = 1 := by omega
      simp [q', q, q2', q2, el, termT]
    · have q2' : ¬ ((n : Int) = 1) := by omega
      simp [-opAdd_ss, q', q, q2', q2, es, el, ea, eb, termT]
theorem stepT_asc {w : List Nat} {c : Int} {p : Nat} (h : asc w = true) : asc (stepT w c p) = true := by
  unfold stepT
  split
  · exact h
  · rw [asc_app, asc_app, h, termT_asc]
    split <;> split <;> decide
theorem stepT_len {w : List Nat} {c : Int} {p : Nat} (hn : c.natAbs < 10 ^ 500) (hp : p < 10 ^ 6) : (stepT w c p).length ≤ w.length + 513 := by
  have := termT_len hn hp
  unfold stepT
  split
  · omega
  · rw [List.length_append, List.length_append]
    have : (if w = [] then (if c < 0 then [45] else []) else (if c < 0 then [32, 45, 32] else [32, 43, 32])).length ≤ 3 := by
      split <;> split <;> decide
    omega
theorem wrT_asc (f : List Int) : ∀ k, asc (wrT f k) = true
  | 0 => by rw [wrT]; exact asc_nil
  | k + 1 => stepT_asc (wrT_asc f k)
theorem wrT_len {f : List Int} (hf : ∀ x ∈ f, x.natAbs < 10 ^ 500) (hl : f.length ≤ 100) : ∀ k, (wrT f k).length ≤ 513 * k
  | 0 => by simp [wrT]
  | k + 1 => by
    have ih := wrT_len hf hl k
    have h0 : (nth f (f.length - 1 - k)).natAbs < 10 ^ 500 := by
      by_cases q : f.length - 1 - k < f.length
      · exact hf _ (nth_mem q)
      · rw [nth_ge (by omega)]; decide
    have := stepT_len (w := wrT f k) (p := f.length - 1 - k) h0 (by omega)
    rw [wrT]
    omega
theorem abs_cast (c : Int) : (if c < 0 then -c else c) = ((c.natAbs : Nat) : Int) := by split <;> omega
theorem str_pick {m p : Mode} {a b : List Nat} {q : Prop} [Decidable q] : opIdx [⟨m, .lst [sd a, sd b]⟩, ⟨p, .int (if q then 1 else 0)⟩] = some ⟨.O, sd (if q then b else a)⟩ := by
  by_cases h : q <;> simp [h, opIdx, atI, ixN]
theorem ev_written {f : List Int} (hf : ∀ x ∈ f, x.natAbs < 10 ^ 500) (hl : f.length ≤ 100) : m_written [il f] = some ⟨.O, sd (wr f)⟩ := by
  obtain ⟨ρ', e, x2, x3, rfl⟩ := sFor_down (fs := (sCons (sApp2 opSub (sApp opLen (sCons (sVar 0) sNil)) (sCon (.int 1))) (sCons (sApp1 opNeg (sCon (.int 1))) (sCons (sApp1 opNeg (sCon (.int 1))) sNil)))) (g := sGName 2) (b := w_written_1) (N := f.length)
    (ρ := [some ⟨.F, false, il f⟩, some ⟨.O, false, sd []⟩, none, none])
    (fun k ρ => ∃ x2 x3 : Option Slot, ρ = [some ⟨.F, false, il f⟩, some ⟨.O, false, sd (wrT f (f.length - k))⟩, x2, x3])
    (m1 := .O) (m2 := .O) (m3 := .O) (by simp; rfl) (by omega) ⟨none, none, by simp [wrT]⟩ (by
      rintro k ρ hk ⟨x2, x3, rfl⟩
      have ix := fun m p => idx_il (m := m) (p := p) hk
      have hc := hf _ (nth_mem hk)
      have aw := wrT_asc f (f.length - (k + 1))
      have lw := wrT_len hf hl (f.length - (k + 1))
      have st : wrT f (f.length - k) = stepT (wrT f (f.length - (k + 1))) (nth f k) k := by
        rw [show f.length - k = f.length - (k + 1) + 1 by omega, wrT, show f.length - 1 - (f.length - (k + 1)) = k by omega]
      rw [st]
      generalize wrT f (f.length - (k + 1)) = w at *
      generalize nth f k = c at *
      have et := ev_term_text (n := c.natAbs) (p := k) hc (by omega)
      have lt := termT_len (p := k) hc (by omega)
      have hn : asc [] = true := asc_nil
      have e0 := fun m p => opEq_ss (m := m) (p := p) aw hn
      simp only [w_written_1, k_bplus, k_bminus, k_empty, k_minus]
      unfold stepT
      have pk := fun (m p : Mode) (a b : List Nat) => str_pick (m := m) (p := p) (a := a) (b := b) (q := c < 0)
      have ad : ∀ (m p : Mode) (a b : List Nat), a.length ≤ 100000 → b.length ≤ 100000 → opAdd [⟨m, sd a⟩, ⟨p, sd b⟩] = some ⟨.O, sd (a ++ b)⟩ := fun m p a b h1 h2 => by
        rw [opAdd_ss, if_pos (ok_of (by have := sizeLine_big; omega))]
      by_cases q : c = 0
      · have q' := eq_true q
        simp [ix, q']
      · by_cases q2 : w = []
        · have q2' := eq_true q2
          have a1 := fun m p => ad m p w (if c < 0 then [45] else []) (by omega) (by split <;> decide)
          have a2 := fun m p => ad m p (w ++ if c < 0 then [45] else []) (termT c.natAbs k) (by rw [List.length_append]; split <;> simp <;> omega) (by omega)
          simp [-opAdd_ss, -opEq_ss, ix, q, e0, q2', pk, abs_cast, et, a1, a2]
        · have a1 := fun m p => ad m p w (if c < 0 then [32, 45, 32] else [32, 43, 32]) (by omega) (by split <;> decide)
          have a2 := fun m p => ad m p (w ++ if c < 0 then [32, 45, 32] else [32, 43, 32]) (termT c.natAbs k) (by rw [List.length_append]; split <;> simp <;> omega) (by omega)
          simp [-opAdd_ss, -opEq_ss, ix, q, e0, q2, pk, abs_cast, et, a1, a2])
  have e : lp_written_1 _ = _ := e
  have aw := wrT_asc f f.length
  have e0 := fun m p => opEq_ss (m := m) (p := p) aw asc_nil
  simp only [m_written, fnSem, b_written, k_empty, k_0]
  unfold wr
  rw [Nat.sub_zero] at e
  by_cases q : wrT f f.length = []
  · have q' := eq_true q
    simp [-opEq_ss, e, e0, q']
  · simp [-opEq_ss, e, e0, q]
theorem spl_ok : ∀ (a acc : List Nat), asc acc = true → asc a = true → (∀ w ∈ spl [32] 0 acc a, asc w = true ∧ w.length ≤ acc.length + a.length) ∧ (spl [32] 0 acc a).length ≤ a.length + 1 ∧ spl [32] 0 acc a ≠ []
  | [], acc, h, _ => by
    rw [spl_nil]
    exact ⟨fun w hw => by rw [List.mem_singleton.mp hw]; exact ⟨h, by simp⟩, by simp, by simp⟩
  | c :: r, acc, h, h2 => by
    have h2 : asc [c] = true ∧ asc r = true := by simp at h2 ⊢; exact h2
    by_cases q : pre [32] (c :: r) = true
    · obtain ⟨q1, q2, q3⟩ := spl_ok r [] asc_nil h2.2
      rw [spl_hit q]
      show (∀ w ∈ acc :: spl [32] 0 [] r, _) ∧ (acc :: spl [32] 0 [] r).length ≤ _ ∧ _
      refine ⟨fun w hw => ?_, by simp; omega, by simp⟩
      rcases List.mem_cons.mp hw with rfl | hw
      · exact ⟨h, by omega⟩
      · obtain ⟨a1, a2⟩ := q1 w hw
        exact ⟨a1, by simp at a2 ⊢; omega⟩
    · obtain ⟨q1, q2, q3⟩ := spl_ok r (acc ++ [c]) (by rw [asc_app, h, h2.1]; rfl) h2.2
      rw [spl_miss (by simpa using q)]
      refine ⟨fun w hw => ?_, by simp; omega, q3⟩
      obtain ⟨a1, a2⟩ := q1 w hw
      exact ⟨a1, by simp at a2 ⊢; omega⟩
def tmOk (t : Int × Nat) : Prop := t.2 ≤ 12 ∧ t.1.natAbs < 10 ^ 60
theorem rdRest_ok : ∀ {r : List (List Nat)} {ts : List (Int × Nat)}, rdRest r = some ts → ∀ t ∈ ts, tmOk t
  | [], _, h => by cases h; simp
  | [_], _, h => by cases h
  | s :: t :: r, ts, h => by
    obtain ⟨_, n, p, l, e1, e2, rfl⟩ := rdRest_step h
    obtain ⟨h1, h2⟩ := rdTerm_le e1
    intro u hu
    rcases List.mem_cons.mp hu with rfl | hu
    · refine ⟨h2, ?_⟩
      show (if s = [45] then 0 - (n : Int) else (n : Int)).natAbs < _
      split <;> omega
    · exact rdRest_ok e2 u hu
theorem rdTerms_ok {ws : List (List Nat)} {ts : List (Int × Nat)} (h : rdTerms ws = some ts) : (∀ t ∈ ts, tmOk t) ∧ ts.length ≤ ws.length := by
  cases ws with
  | nil => cases h
  | cons w r =>
    simp only [rdTerms] at h
    cases e1 : rdTerm (if w.take 1 = [45] then w.drop 1 else w) with
    | none => rw [e1] at h; cases h
    | some np =>
      obtain ⟨n, p⟩ := np
      rw [e1] at h
      cases e2 : rdRest r with
      | none => rw [e2] at h; cases h
      | some l =>
        rw [e2] at h
        cases h
        obtain ⟨h1, h2⟩ := rdTerm_le e1
        have := rdRest_even e2
        refine ⟨fun u hu => ?_, by simp; omega⟩
        rcases List.mem_cons.mp hu with rfl | hu
        · refine ⟨h2, ?_⟩
          show ((if w.take 1 = [45] then -1 else 1) * (n : Int)).natAbs < _
          split <;> omega
        · exact rdRest_ok e2 u hu
theorem sumT_bits : ∀ (ts : List (Int × Nat)) (f : List Int) (B : Nat), (∀ t ∈ ts, tmOk t) → (∀ k, (nth f k).natAbs ≤ B) → ∀ k, (nth (sumT ts f) k).natAbs ≤ B + ts.length * 10 ^ 60
  | [], f, B, _, h, k => by rw [sumT]; have := h k; simp; omega
  | (n, p) :: r, f, B, h, hf, k => by
    obtain ⟨_, hn⟩ := h (n, p) (by simp)
    rw [sumT]
    have hn : n.natAbs < 10 ^ 60 := hn
    have ih := sumT_bits r (f.set p (nth f p + n)) (B + 10 ^ 60) (fun t ht => h t (by simp [ht])) (fun j => by
      by_cases q : p < f.length
      · rw [nth_set q]
        split
        · have := hf p; omega
        · have := hf j; omega
      · rw [List.set_eq_of_length_le (by omega)]
        have := hf j; omega) k
    rw [List.length_cons, Nat.succ_mul]
    omega
theorem ev_read_polynomial {a : List Nat} {f : List Int} (h : asc a = true) (hl : a.length ≤ 50000) (e : rdPoly a = some f) : m_read_polynomial [sd a] = some ⟨.O, il f⟩ := by
  unfold rdPoly at e
  cases e1 : rdTerms (spl [32] 0 [] a) with
  | none => rw [e1] at e; cases e
  | some ts =>
    rw [e1] at e
    simp only at e
    split at e
    case isFalse => cases e
    rename_i hw
    cases e
    obtain ⟨w1, w2, w3⟩ := spl_ok a [] asc_nil h
    obtain ⟨t1, t2⟩ := rdTerms_ok e1
    obtain ⟨w, r, ew⟩ : ∃ w r, spl [32] 0 [] a = w :: r := by
      cases e : spl [32] 0 [] a with
      | nil => exact absurd e w3
      | cons w r => exact ⟨w, r, rfl⟩
    rw [ew] at e1 w1 w2 t2
    have et := ev_read_terms (w := w) (r := r) (fun u hu => by
      obtain ⟨q1, q2⟩ := w1 u hu
      exact ⟨q1, by simp at q2; omega⟩) (by simp at w2; omega) e1
    have os := opSplit_sx (m := .O) (p := .O) (a := a) (by omega)
    rw [ew] at os
    have hc : ∀ y1 y2 y3 y4, lc_read_polynomial_1 [some ⟨.O, false, sd a⟩, y1, y2, y3, y4] = some (⟨.O, il z13⟩, [some ⟨.O, false, sd a⟩, y1, y2, y3, y4]) := fun y1 y2 y3 y4 => by
      have := sLc_dl (ρ := [some ⟨.O, false, sd a⟩, y1, y2, y3, y4]) (ls := []) (vs := [2]) (src := iRange1 (sCons (sApp2 opAdd (sCon (.int 12)) (sCon (.int 1))) sNil)) (g := sGName 2) (e := sCon (.int 0)) (f := fun k : Nat => D.int (k : Int)) (h := D.int) (xs := List.range 13) (fun k => [none, none, some ⟨.O, false, .int (k : Int)⟩, none, none]) (fun k => 0)
        (by simp; rfl) (by have := sizeLine_big; rw [List.length_range]; omega) (by simp [hide, view1, List.mapIdx_cons]) (by simp [hide, view1, wipeE, List.mapIdx_cons]) (fun k hk => by simp)
      exact this
    obtain ⟨x3, x4, es⟩ := ev_sumT (y0 := some ⟨.O, false, sd a⟩) (y2 := none) ts z13 none none (fun t ht => by have := (t1 t ht).1; rw [z13_len]; omega)
    have ef : lp_read_polynomial_1 [some ⟨.O, false, sd a⟩, some ⟨.O, false, il z13⟩, none, none, none] = some (.nx [some ⟨.O, false, sd a⟩, some ⟨.O, false, il (sumT ts z13)⟩, none, x3, x4]) := by
      unfold lp_read_polynomial_1
      rw [sFor_ap]
      have : iSq (sApp (opFn m_read_terms) (sCons (sApp2 opSplit (sVar 0) (sCon (.str " "))) sNil)) [some ⟨.O, false, sd a⟩, some ⟨.O, false, il z13⟩, none, none, none] = some (ts.map tmD, [some ⟨.O, false, sd a⟩, some ⟨.O, false, il z13⟩, none, none, none]) := by
        simp [k_blank, os, et]
      rw [this]
      simp only
      have fz : freeze2 [some ⟨.O, false, sd a⟩, some ⟨.O, false, il z13⟩, none, none, none] [some ⟨.O, false, sd a⟩, some ⟨.O, false, il z13⟩, none, none, none] = [some ⟨.O, false, sd a⟩, some ⟨.O, false, il z13⟩, none, none, none] := by simp
      rw [fz]
      exact es
    have ep := pop_loop (y0 := some ⟨.O, false, sd a⟩) (rest := [none, x3, x4]) _ (sumT ts z13) rfl
    have ep : lp_read_polynomial_2 _ = _ := ep
    have tb : ∀ x ∈ trim (sumT ts z13), x.natAbs < 10 ^ 500 := fun x hx => by
      obtain ⟨j, hj⟩ := List.mem_iff_getElem?.mp (trim_mem hx)
      have := sumT_bits ts z13 0 t1 (fun k => by rw [z13_nth]; decide) j
      rw [nth_get hj] at this
      have t3 : ts.length ≤ 50001 := by simp at w2 t2; omega
      have t4 : ts.length * 10 ^ 60 ≤ 50001 * 10 ^ 60 := Nat.mul_le_mul_right _ t3
      have t5 : (50001 : Nat) * 10 ^ 60 < 10 ^ 500 := Nat.lt_of_lt_of_le (by decide) (Nat.le_of_ble_eq_true rfl : (10 : Nat) ^ 65 ≤ 10 ^ 500)
      omega
    have tl13 : (trim (sumT ts z13)).length ≤ 13 := by
      have := trim_len_le (sumT ts z13)
      rw [sumT_len, z13_len] at this
      exact this
    have ew := ev_written tb (by omega)
    rw [hw] at ew
    have en := fun m p => opNe_ss (m := m) (p := p) h h
    simp only [m_read_polynomial, fnSem, b_read_polynomial]
    simp [isi_str, hc, ef, ep, ew, en]
end Tr

/-! the program's readers of texts that are no polynomial: which of them raise. -/
namespace Tr
open PySem L2 TL NumText
section
variable {ρ : Env}
@[simp] theorem xNo_ap : xNo ρ = none := rfl
@[simp] theorem xCons_ap {fx gx : XE} {f : SE} : xCons fx f gx ρ = (match fx ρ with
  | some r => some r
  | none => match f ρ with
    | some (_, ρ1) => gx ρ1
    | none => none) := rfl
@[simp] theorem xApp_ap {fx : XE} : xApp fx ρ = (fx ρ).map fun r => (r.1, restore ρ r.2) := rfl
@[simp] theorem xCall_ap {gx : List D → Option String} {fs : SA} {fx : XE} : xCall gx fs fx ρ = (match fx ρ with
  | some r => some (r.1, restore ρ r.2)
  | none => match fs ρ with
    | some (rs, ρ1) => (gx (rs.map fun (x : Val) => x.d)).map fun c => (c, restore ρ ρ1)
    | none => none) := rfl
@[simp] theorem xOf_ap {fx : XE} : xOf fx ρ = (fx ρ).map fun r => (r.1, freeze2 ρ r.2) := rfl
@[simp] theorem xRaise_ap {c : String} : xRaise c ρ = some (c, ρ) := rfl
@[simp] theorem xSeq_ap {fx gx : XE} {f : SS} : xSeq fx f gx ρ = (match fx ρ with
  | some r => some r
  | none => match f ρ with
    | some (.nx ρ1) => gx ρ1
    | _ => none) := rfl
@[simp] theorem xIf_ap {s : SB} {fx gx : XE} : xIf s fx gx ρ = (match s ρ with
  | some (true, ρ1) => fx ρ1
  | some (false, ρ1) => gx ρ1
  | none => none) := rfl
end
section
variable {a : List Nat}
theorem ex_read_power (h : asc a = true) (hl : a.length ≤ 1000000) : mx_read_power [sd a] = if rdPow a = none then some "NoText" else none := by
  have hx : asc [120] = true := by decide
  have hxh : asc [120, 94] = true := by decide
  have e1 := opEq_ss (m := .O) (p := .O) h hx
  have e2 := opNe_ss (m := .O) (p := .O) (asc_take h 2) hxh
  have ep := ev_plain (asc_drop h 2) (by rw [List.length_drop]; omega)
  have ct : L2.cutS (sx a) none (some 2) = sx (a.take 2) := cutS_to 2
  have cf : L2.cutS (sx a) (some 2) none = sx (a.drop 2) := cutS_from 2
  have lz : ok ((sx a).length ≤ sizeLine) = true := ok_of (by rw [sx_len]; exact sizeN hl)
  have lz2 : ok (a.length ≤ sizeLine) = true := ok_of (sizeN hl)
  simp only [mx_read_power, fnSemX, xb_read_power, k_x, k_xh]
  by_cases q : a = [120]
  · have q' := eq_true q
    simp [e1, q', rdPow]
  · by_cases q1 : a.take 2 = [120, 94]
    · by_cases q2 : plain (a.drop 2) = true
      · have ei := opIntS_d (m := .O) (plain_digits q2) (plain_ne q2) (by have := plain_len q2; omega)
        by_cases q3 : digitsVal (a.drop 2) ≤ 12
        · have q4 : ¬ (12 : Int) < (digitsVal (a.drop 2) : Int) := by omega
          simp [e1, q, e2, q1, ep, q2, ct, cf, lz, lz2, ei, q3, q4, rdPow]
        · have q4 : (12 : Int) < (digitsVal (a.drop 2) : Int) := by omega
          simp [e1, q, e2, q1, ep, q2, ct, cf, lz, lz2, ei, q3, q4, rdPow]
      · simp [e1, q, e2, q1, ep, q2, ct, cf, lz, lz2, rdPow]
    · simp [e1, q, e2, q1, ep, ct, cf, lz, lz2, rdPow]
theorem ex_read_term (h : asc a = true) (hl : a.length ≤ 100000) : mx_read_term [sd a] = if rdTerm a = none then some "NoText" else none := by
  have ep := ev_plain h (by omega)
  have ek := ev_read_power h (by omega)
  have xk := ex_read_power h (by omega)
  simp only [mx_read_term, fnSemX, xb_read_term, k_star, k_empty]
  by_cases q : plain a = true
  · have ei := opIntS_d (m := .O) (plain_digits q) (plain_ne q) (by have := plain_len q; omega)
    simp [ep, q, ei, rdTerm]
  · have op := opPart_sx (m := .O) (p := .O) (a := a) (by omega)
    cases e : TL.par [42] [] a with
    | none =>
      rw [e] at op
      cases er : rdPow a with
      | none =>
        rw [er] at ek xk
        simp [ep, q, op, ek, xk, rdTerm, e, er, D.flats]
      | some p =>
        rw [er] at ek xk
        simp [ep, q, op, ek, xk, rdTerm, e, er, D.flats]
    | some bc =>
      obtain ⟨b, c⟩ := bc
      rw [e] at op
      obtain ⟨q1, q2, q3, q4⟩ := par_asc e rfl h
      simp at q3
      have epb := ev_plain q1 (by omega)
      have ekc := ev_read_power q2 (by omega)
      have xkc := ex_read_power q2 (by omega)
      by_cases q5 : plain b = true
      · have ei := opIntS_d (m := .O) (plain_digits q5) (plain_ne q5) (by have := plain_len q5; omega)
        cases er : rdPow c with
        | none =>
          rw [er] at ekc xkc
          simp [ep, q, op, rdTerm, e, er, D.flats, epb, q5, ei, ekc, xkc]
        | some p =>
          rw [er] at ekc xkc
          simp [ep, q, op, rdTerm, e, er, D.flats, epb, q5, ei, ekc, xkc]
      · simp [ep, q, op, rdTerm, e, D.flats, epb, q5]
end
/-! ### all the terms -/
def ups : Int → Nat → List D
  | _, 0 => []
  | i, n + 1 => .int i :: ups (i + 2) n
theorem ups_step : ∀ (n : Nat) (i : Int), step i 2 n = ups i n
  | 0, i => rfl
  | n + 1, i => by
    rw [ups, ← ups_step n (i + 2)]
    unfold step
    rw [List.range_succ_eq_map, List.map_cons, List.map_map]
    congr 1
    · simp
    · refine List.map_congr_left fun k _ => ?_
      simp only [Function.comp]
      congr 1
      omega
/-- the slots while the terms are read -/
def tmE (ws : List (List Nat)) (sg : Int) (fst : List Nat) (acc : List (Int × Nat)) (x3 x4 x6 : Option Slot) : Env :=
  [some ⟨.F, false, dl sd ws⟩, some ⟨.O, false, .int sg⟩, some ⟨.O, false, sd fst⟩, x3, x4, some ⟨.O, false, dl tmD acc⟩, x6]
section
variable {ws : List (List Nat)} {sg : Int} {fst : List Nat} {acc : List (Int × Nat)} {x3 x4 : Option Slot} {k : Nat} {s t : List Nat}
theorem pass_end (hw : wordsOk ws) (h1 : ws[k]? = some s) (hk : k + 1 = ws.length) : w_read_terms_1 (tmE ws sg fst acc x3 x4 (some ⟨.O, false, .int (k : Int)⟩)) = none ∧ ∃ ρ', xw_read_terms_1 (tmE ws sg fst acc x3 x4 (some ⟨.O, false, .int (k : Int)⟩)) = some ("NoText", ρ') := by
  obtain ⟨as, ls⟩ := hw s (List.mem_of_getElem? h1)
  have i1 := fun m p => idx_w (ws := ws) (m := m) (p := p) (k := k) (w := s) h1
  have ir := fun m p => in_pm (m := m) (p := p) as
  have nl : ((ws.length : Nat) : Int) = (k : Int) + 1 := by omega
  have lz : ws.length ≤ sizeLine ∨ True := .inr trivial
  unfold tmE
  simp only [w_read_terms_1, xw_read_terms_1, k_plus, k_minus]
  by_cases q : s = [43] ∨ s = [45]
  · by_cases q2 : s = [43]
    · have q2' := eq_true q2
      constructor <;> simp [i1, ir, q2', nl]
    · have q3 := eq_true (q.resolve_left q2)
      constructor <;> simp [i1, ir, q2, q3, nl]
  · have q1 : ¬ s = [43] := fun z => q (.inl z)
    have q2 : ¬ s = [45] := fun z => q (.inr z)
    constructor <;> simp [i1, ir, q1, q2]
theorem pass_bad (hw : wordsOk ws) (h1 : ws[k]? = some s) (h2 : ws[k + 1]? = some t) (hb : ¬ (s = [43] ∨ s = [45]) ∨ rdTerm t = none) : w_read_terms_1 (tmE ws sg fst acc x3 x4 (some ⟨.O, false, .int (k : Int)⟩)) = none ∧ ∃ ρ', xw_read_terms_1 (tmE ws sg fst acc x3 x4 (some ⟨.O, false, .int (k : Int)⟩)) = some ("NoText", ρ') := by
  obtain ⟨as, ls⟩ := hw s (List.mem_of_getElem? h1)
  obtain ⟨at', lt⟩ := hw t (List.mem_of_getElem? h2)
  have i1 := fun m p => idx_w (ws := ws) (m := m) (p := p) (k := k) (w := s) h1
  have i2 := fun m p => idx_w (ws := ws) (m := m) (p := p) (k := k + 1) (w := t) h2
  have ir := fun m p => in_pm (m := m) (p := p) as
  have nl : ¬ ((k : Int) + 1 = ((ws.length : Nat) : Int)) := by have := lt_of_get h2; omega
  have et := ev_read_term at' lt
  have xt := ex_read_term at' lt
  obtain ⟨kk, hkk⟩ : ∃ kk : Int, kk = (k : Int) := ⟨_, rfl⟩
  have ek2 : ((k + 1 : Nat) : Int) = kk + 1 := by omega
  rw [ek2] at i2
  rw [← hkk] at i1 nl ⊢
  unfold tmE
  simp only [w_read_terms_1, xw_read_terms_1, k_plus, k_minus]
  by_cases q1 : s = [43]
  · have q1' := eq_true q1
    have hb := hb.resolve_left (fun z => z (.inl q1))
    rw [hb] at et xt
    constructor <;> simp [i1, i2, ir, q1', nl, et, xt]
  · by_cases q2 : s = [45]
    · have q2' := eq_true q2
      have hb := hb.resolve_left (fun z => z (.inr q2))
      rw [hb] at et xt
      constructor <;> simp [i1, i2, ir, q1, q2', nl, et, xt]
    · constructor <;> simp [i1, ir, q1, q2]
theorem pass_good {n p : Nat} (hw : wordsOk ws) (h1 : ws[k]? = some s) (h2 : ws[k + 1]? = some t) (hs : s = [43] ∨ s = [45]) (ht : rdTerm t = some (n, p)) (hl : acc.length < 1000000) : (∃ x3' x4', w_read_terms_1 (tmE ws sg fst acc x3 x4 (some ⟨.O, false, .int (k : Int)⟩)) = some (.nx (tmE ws sg fst (acc ++ [((if s = [45] then 0 - (n : Int) else (n : Int)), p)]) x3' x4' (some ⟨.O, false, .int (k : Int)⟩)))) ∧ xw_read_terms_1 (tmE ws sg fst acc x3 x4 (some ⟨.O, false, .int (k : Int)⟩)) = none := by
  obtain ⟨as, ls⟩ := hw s (List.mem_of_getElem? h1)
  obtain ⟨at', lt⟩ := hw t (List.mem_of_getElem? h2)
  have i1 := fun m p => idx_w (ws := ws) (m := m) (p := p) (k := k) (w := s) h1
  have i2 := fun m p => idx_w (ws := ws) (m := m) (p := p) (k := k + 1) (w := t) h2
  have ir := fun m p => in_pm (m := m) (p := p) as
  have nl : ¬ ((k : Int) + 1 = ((ws.length : Nat) : Int)) := by have := lt_of_get h2; omega
  have et := ev_read_term at' lt
  have xt := ex_read_term at' lt
  rw [ht] at et xt
  obtain ⟨kk, hkk⟩ : ∃ kk : Int, kk = (k : Int) := ⟨_, rfl⟩
  have ek2 : ((k + 1 : Nat) : Int) = kk + 1 := by omega
  rw [ek2] at i2
  rw [← hkk] at i1 nl ⊢
  have am : asc [45] = true := by decide
  have e45 := fun m p => opEq_ss (m := m) (p := p) as am
  have sz : ok (acc.length < sizeLine) = true := ok_of (by have := sizeLine_big; omega)
  have ap := fun (c : Int) (q : Nat) => apnd_O (lk := false) (h := tmD) (xs := acc) (x := (c, q))
  simp only [tmD, sz, if_true] at ap
  unfold tmE
  simp only [w_read_terms_1, xw_read_terms_1, k_plus, k_minus]
  by_cases q : s = [45]
  · have q' := eq_true q
    constructor <;> simp [i1, i2, ir, q', et, xt, nl, e45, ap]
  · have q1 := eq_true (hs.resolve_right q)
    constructor <;> simp [i1, i2, ir, q, q1, et, xt, nl, e45, ap]
theorem go_step {g : STg} {b : SS} {d : D} {ds : List D} {ρ ρ1 : Env} (h : g (nrm .F d) ρ = some ρ1) : forGo g b (d :: ds) ρ = (match b ρ1 with
      | some (.nx ρ2) => forGo g b ds ρ2
      | some (.ct ρ2) => forGo g b ds ρ2
      | some (.bk ρ2) => some (.nx ρ2)
      | some (.rt r ρ2) => some (.rt r ρ2)
      | none => none) := by first | (rw [forGo, h]; done) | (rw [forGo, h]; rfl)
theorem goX_step {g : STg} {b : SS} {bx : XE} {d : D} {ds : List D} {ρ ρ1 : Env} (h : g (nrm .F d) ρ = some ρ1) : forX g b bx (d :: ds) ρ = (match bx ρ1 with
      | some r => some r
      | none =>
        match b ρ1 with
        | some (.nx ρ2) => forX g b bx ds ρ2
        | some (.ct ρ2) => forX g b bx ds ρ2
        | _ => none) := by first | (rw [forX, h]; done) | (rw [forX, h]; rfl)
theorem set_k {x6 : Option Slot} (h : x6 = none ∨ ∃ i : Int, x6 = some ⟨.O, false, .int i⟩) {i : Int} : sGName 6 (nrm .F (.int i)) (tmE ws sg fst acc x3 x4 x6) = some (tmE ws sg fst acc x3 x4 (some ⟨.O, false, .int i⟩)) := by
  unfold tmE
  rcases h with rfl | ⟨j, rfl⟩ <;> simp
theorem rest_go (hw : wordsOk ws) (hl : ws.length ≤ 200000) : ∀ (m k : Nat) (r : List (List Nat)) (acc : List (Int × Nat)) (x3 x4 x6 : Option Slot), ws.drop k = r → (r.length + 1) / 2 = m → acc.length + m ≤ 500000 → (x6 = none ∨ ∃ i : Int, x6 = some ⟨.O, false, .int i⟩) →
    (rdRest r = none → forGo (sGName 6) w_read_terms_1 (ups (k : Int) m) (tmE ws sg fst acc x3 x4 x6) = none ∧ ∃ ρ', forX (sGName 6) w_read_terms_1 xw_read_terms_1 (ups (k : Int) m) (tmE ws sg fst acc x3 x4 x6) = some ("NoText", ρ')) ∧
    (rdRest r ≠ none → forX (sGName 6) w_read_terms_1 xw_read_terms_1 (ups (k : Int) m) (tmE ws sg fst acc x3 x4 x6) = none)
  | 0, k, r, acc, x3, x4, x6, hr, hm, ha, h6 => by
    have : r = [] := List.length_eq_zero_iff.mp (by omega)
    subst this
    exact ⟨fun z => (nomatch z), fun _ => rfl⟩
  | m + 1, k, r, acc, x3, x4, x6, hr, hm, ha, h6 => by
    have g0 : ∀ j, ws[k + j]? = r[j]? := fun j => by rw [← hr, List.getElem?_drop]
    have hlen : ws.length = k + r.length ∨ r = [] := by
      by_cases q : k ≤ ws.length
      · left; rw [← hr, List.length_drop]; omega
      · right; rw [← hr, List.drop_eq_nil_iff]; omega
    cases r with
    | nil => simp at hm
    | cons s r =>
      have hlen := hlen.resolve_right (by simp)
      have h1 : ws[k]? = some s := g0 0
      have sk := set_k (ws := ws) (sg := sg) (fst := fst) (acc := acc) (x3 := x3) (x4 := x4) h6 (i := (k : Int))
      rw [ups, go_step sk, goX_step sk]
      cases r with
      | nil =>
        obtain ⟨e1, ρ', e2⟩ := pass_end (sg := sg) (fst := fst) (acc := acc) (x3 := x3) (x4 := x4) hw h1 (by simp at hlen; omega)
        rw [e1, e2]
        exact ⟨fun _ => ⟨rfl, ρ', rfl⟩, fun z => absurd rfl z⟩
      | cons t r =>
        have h2 : ws[k + 1]? = some t := g0 1
        by_cases hb : ¬ (s = [43] ∨ s = [45]) ∨ rdTerm t = none
        · obtain ⟨e1, ρ', e2⟩ := pass_bad (sg := sg) (fst := fst) (acc := acc) (x3 := x3) (x4 := x4) hw h1 h2 hb
          have en : rdRest (s :: t :: r) = none := by
            unfold rdRest
            rcases hb with hb | hb
            · rw [if_neg hb]
            · split
              · rw [hb]
              · rfl
          rw [e1, e2, en]
          exact ⟨fun _ => ⟨rfl, ρ', rfl⟩, fun z => absurd rfl z⟩
        · have hs : s = [43] ∨ s = [45] := Classical.byContradiction fun z => hb (.inl z)
          obtain ⟨⟨n, p⟩, ht⟩ : ∃ q, rdTerm t = some q := Option.ne_none_iff_exists'.mp fun z => hb (.inr z)
          obtain ⟨⟨x3', x4', e1⟩, e2⟩ := pass_good (sg := sg) (fst := fst) (acc := acc) (x3 := x3) (x4 := x4) hw h1 h2 hs ht (by omega)
          have ih := rest_go hw hl m (k + 2) r (acc ++ [((if s = [45] then 0 - (n : Int) else (n : Int)), p)]) x3' x4' (some ⟨.O, false, .int (k : Int)⟩) (by rw [← List.drop_drop, hr]; rfl) (by simp at hm; omega) (by simp; omega) (.inr ⟨_, rfl⟩)
          have er : rdRest (s :: t :: r) = (rdRest r).map fun l => ((if s = [45] then 0 - (n : Int) else (n : Int)), p) :: l := by
            rw [rdRest, if_pos hs, ht]
          rw [e1, e2, er]
          rw [show ((k + 2 : Nat) : Int) = (k : Int) + 2 by omega] at ih
          cases e3 : rdRest r with
          | none => exact ⟨fun _ => ih.1 e3, fun z => absurd rfl z⟩
          | some l => exact ⟨fun z => (by cases z), fun _ => ih.2 (by rw [e3]; simp)⟩
end
theorem ex_read_terms {w : List Nat} {r : List (List Nat)} (hw : wordsOk (w :: r)) (hl : r.length ≤ 100000) :
    (rdTerms (w :: r) = none → m_read_terms [dl sd (w :: r)] = none ∧ mx_read_terms [dl sd (w :: r)] = some "NoText") ∧ (rdTerms (w :: r) ≠ none → mx_read_terms [dl sd (w :: r)] = none) := by
  obtain ⟨aw, lw⟩ := hw w (by simp)
  simp only [rdTerms]
  obtain ⟨sg, hsg⟩ : ∃ sg : Int, sg = (if w.take 1 = [45] then -1 else 1) := ⟨_, rfl⟩
  obtain ⟨fst, hfst⟩ : ∃ fst, fst = (if w.take 1 = [45] then w.drop 1 else w) := ⟨_, rfl⟩
  rw [← hfst]
  have af : asc fst = true := by
    rw [hfst]; split
    · exact asc_drop aw 1
    · exact aw
  have lf : fst.length ≤ 100000 := by
    rw [hfst]; split
    · rw [List.length_drop]; omega
    · exact lw
  have et := ev_read_term af lf
  have xt := ex_read_term af lf
  have i0 := fun m p => idx_w (ws := w :: r) (m := m) (p := p) (k := 0) (w := w) rfl
  have i0 : ∀ m p, opIdx [⟨m, dl sd (w :: r)⟩, ⟨p, .int 0⟩] = some ⟨.O, sd w⟩ := i0
  have ct : L2.cutS (sx w) none (some 1) = sx (w.take 1) := cutS_to 1
  have cf : L2.cutS (sx w) (some 1) none = sx (w.drop 1) := cutS_from 1
  have lz : ok (w.length ≤ sizeLine) = true := ok_of (by exact sizeN (by omega : w.length ≤ 1000000))
  have am : asc [45] = true := by decide
  have e45 := fun m p => opEq_ss (m := m) (p := p) (asc_take aw 1) am
  simp only [m_read_terms, fnSem, b_read_terms, mx_read_terms, fnSemX, xb_read_terms, k_minus]
  cases e1 : rdTerm fst with
  | none =>
    rw [e1] at et xt
    by_cases q : w.take 1 = [45]
    · rw [if_pos q] at hsg hfst
      subst hsg hfst
      have q' := eq_true q
      simp [-List.drop_one, i0, ct, cf, lz, e45, q', et, xt]
    · rw [if_neg q] at hsg hfst
      subst hsg hfst
      simp [i0, ct, cf, lz, e45, q, et, xt]
  | some np =>
    obtain ⟨n, p⟩ := np
    rw [e1] at et xt
    obtain ⟨hn, hp⟩ := rdTerm_le e1
    have bo : bitOk sg (n : Int) = true := bitOk_of (n := 1) (m := 200) (by rw [hsg]; split <;> decide) (by
      rw [Int.natAbs_natCast]
      exact Nat.lt_of_lt_of_le hn (by decide)) (by decide)
    have go := rest_go (ws := w :: r) (sg := sg) (fst := fst) hw (by simp; omega) ((r.length + 1) / 2) 1 r [(sg * (n : Int), p)] (some ⟨.O, false, .int (n : Int)⟩) (some ⟨.O, false, .int (p : Int)⟩) none rfl rfl (by simp; omega) (.inl rfl)
    have rg : ∀ {ρ : Env}, (sCons (sCon (.int 1)) (sCons (sApp opLen (sCons (sVar 0) sNil)) (sCons (sCon (.int 2)) sNil))) ρ = some ([⟨.O, .int 1⟩, ⟨.O, .int ((w :: r).length : Nat)⟩, ⟨.O, .int 2⟩], ρ) → iRange3 (sCons (sCon (.int 1)) (sCons (sApp opLen (sCons (sVar 0) sNil)) (sCons (sCon (.int 2)) sNil))) ρ = some (ups 1 ((r.length + 1) / 2), ρ) := fun h => by
      rw [iRange3_gen (m1 := .O) (m2 := .O) (m3 := .O) (N := (r.length + 1) / 2) (i := 1) (j := ((w :: r).length : Nat)) (c := 2) h (by decide) (by simp; omega) (by decide) (by decide) ?_ (by omega), ups_step]
      unfold Builtin.Range.rangeSize
      rw [if_pos (by decide)]
      simp only [List.length_cons]
      split <;> omega
    have rg := rg (ρ := tmE (w :: r) sg fst [(sg * (n : Int), p)] (some ⟨.O, false, .int (n : Int)⟩) (some ⟨.O, false, .int (p : Int)⟩) none) (by unfold tmE; simp)
    have fz : freeze2 (tmE (w :: r) sg fst [(sg * (n : Int), p)] (some ⟨.O, false, .int (n : Int)⟩) (some ⟨.O, false, .int (p : Int)⟩) none) (tmE (w :: r) sg fst [(sg * (n : Int), p)] (some ⟨.O, false, .int (n : Int)⟩) (some ⟨.O, false, .int (p : Int)⟩) none) = tmE (w :: r) sg fst [(sg * (n : Int), p)] (some ⟨.O, false, .int (n : Int)⟩) (some ⟨.O, false, .int (p : Int)⟩) none := by unfold tmE; simp
    have lp1 : lp_read_terms_1 (tmE (w :: r) sg fst [(sg * (n : Int), p)] (some ⟨.O, false, .int (n : Int)⟩) (some ⟨.O, false, .int (p : Int)⟩) none) = forGo (sGName 6) w_read_terms_1 (ups 1 ((r.length + 1) / 2)) (tmE (w :: r) sg fst [(sg * (n : Int), p)] (some ⟨.O, false, .int (n : Int)⟩) (some ⟨.O, false, .int (p : Int)⟩) none) := by
      unfold lp_read_terms_1
      rw [sFor_ap, rg]
      simp only [fz]
    have xl1 : xlp_read_terms_1 (tmE (w :: r) sg fst [(sg * (n : Int), p)] (some ⟨.O, false, .int (n : Int)⟩) (some ⟨.O, false, .int (p : Int)⟩) none) = forX (sGName 6) w_read_terms_1 xw_read_terms_1 (ups 1 ((r.length + 1) / 2)) (tmE (w :: r) sg fst [(sg * (n : Int), p)] (some ⟨.O, false, .int (n : Int)⟩) (some ⟨.O, false, .int (p : Int)⟩) none) := by
      unfold xlp_read_terms_1 xFor
      simp only [xNo_ap, rg, fz]
    have go : (rdRest r = none → lp_read_terms_1 (tmE (w :: r) sg fst [(sg * (n : Int), p)] (some ⟨.O, false, .int (n : Int)⟩) (some ⟨.O, false, .int (p : Int)⟩) none) = none ∧ ∃ ρ', xlp_read_terms_1 (tmE (w :: r) sg fst [(sg * (n : Int), p)] (some ⟨.O, false, .int (n : Int)⟩) (some ⟨.O, false, .int (p : Int)⟩) none) = some ("NoText", ρ')) ∧ (rdRest r ≠ none → xlp_read_terms_1 (tmE (w :: r) sg fst [(sg * (n : Int), p)] (some ⟨.O, false, .int (n : Int)⟩) (some ⟨.O, false, .int (p : Int)⟩) none) = none) := by
      rw [lp1, xl1]
      exact go
    unfold tmE at go
    have hd : ∀ c : Int, D.lst [.tup [.int c, .int (p : Int)]] = dl tmD [(c, p)] := fun _ => rfl
    cases e2 : rdRest r with
    | none =>
      obtain ⟨g1, ρ', g2⟩ := go.1 e2
      by_cases q : w.take 1 = [45]
      · rw [if_pos q] at hsg hfst
        subst hsg hfst
        have q' := eq_true q
        rw [show (-1 : Int) * (n : Int) = -(n : Int) by omega] at g1 g2
        simp [-List.drop_one, i0, ct, cf, lz, e45, q', et, xt, bo, hd, g1, g2]
      · rw [if_neg q] at hsg hfst
        subst hsg hfst
        rw [Int.one_mul] at g1 g2
        simp [i0, ct, cf, lz, e45, q, et, xt, bo, hd, g1, g2]
    | some l =>
      have g2 := go.2 (by rw [e2]; simp)
      by_cases q : w.take 1 = [45]
      · rw [if_pos q] at hsg hfst
        subst hsg hfst
        have q' := eq_true q
        rw [show (-1 : Int) * (n : Int) = -(n : Int) by omega] at g2
        refine ⟨fun z => (by cases z), fun _ => ?_⟩
        simp [-List.drop_one, i0, ct, cf, lz, e45, q', et, xt, bo, hd, g2]
        split <;> rfl
      · rw [if_neg q] at hsg hfst
        subst hsg hfst
        rw [Int.one_mul] at g2
        refine ⟨fun z => (by cases z), fun _ => ?_⟩
        simp [i0, ct, cf, lz, e45, q, et, xt, bo, hd, g2]
        split <;> rfl
theorem ex_read_polynomial {a : List Nat} (h : asc a = true) (hl : a.length ≤ 50000) (e : rdPoly a = none) : m_read_polynomial [sd a] = none ∧ mx_read_polynomial [sd a] = some "NoText" := by
  unfold rdPoly at e
  obtain ⟨w1, w2, w3⟩ := spl_ok a [] asc_nil h
  obtain ⟨w, r, ew⟩ : ∃ w r, spl [32] 0 [] a = w :: r := by
    cases e : spl [32] 0 [] a with
    | nil => exact absurd e w3
    | cons w r => exact ⟨w, r, rfl⟩
  have os := fun m p => opSplit_sx (m := m) (p := p) (a := a) (by omega)
  rw [ew] at e w1 w2 os
  have hwd : wordsOk (w :: r) := fun u hu => by
    obtain ⟨q1, q2⟩ := w1 u hu
    exact ⟨q1, by simp at q2; omega⟩
  obtain ⟨xt1, xt2⟩ := ex_read_terms hwd (by simp at w2; omega)
  have hc : ∀ y1 y2 y3 y4, lc_read_polynomial_1 [some ⟨.O, false, sd a⟩, y1, y2, y3, y4] = some (⟨.O, il z13⟩, [some ⟨.O, false, sd a⟩, y1, y2, y3, y4]) := fun y1 y2 y3 y4 => by
    have := sLc_dl (ρ := [some ⟨.O, false, sd a⟩, y1, y2, y3, y4]) (ls := []) (vs := [2]) (src := iRange1 (sCons (sApp2 opAdd (sCon (.int 12)) (sCon (.int 1))) sNil)) (g := sGName 2) (e := sCon (.int 0)) (f := fun k : Nat => D.int (k : Int)) (h := D.int) (xs := List.range 13) (fun k => [none, none, some ⟨.O, false, .int (k : Int)⟩, none, none]) (fun k => 0)
      (by simp; rfl) (by have := sizeLine_big; rw [List.length_range]; omega) (by simp [hide, view1, List.mapIdx_cons]) (by simp [hide, view1, wipeE, List.mapIdx_cons]) (fun k hk => by simp)
    exact this
  have fz : freeze2 [some ⟨.O, false, sd a⟩, some ⟨.O, false, il z13⟩, none, none, none] [some ⟨.O, false, sd a⟩, some ⟨.O, false, il z13⟩, none, none, none] = [some ⟨.O, false, sd a⟩, some ⟨.O, false, il z13⟩, none, none, none] := by simp
  cases e1 : rdTerms (w :: r) with
  | none =>
    obtain ⟨g1, g2⟩ := xt1 e1
    have f1 : lp_read_polynomial_1 [some ⟨.O, false, sd a⟩, some ⟨.O, false, il z13⟩, none, none, none] = none := by
      unfold lp_read_polynomial_1
      rw [sFor_ap]
      simp [k_blank, os, g1]
    have f2 : ∃ ρ', xlp_read_polynomial_1 [some ⟨.O, false, sd a⟩, some ⟨.O, false, il z13⟩, none, none, none] = some ("NoText", ρ') := by
      unfold xlp_read_polynomial_1 xFor
      simp [k_blank, os, g2]
    obtain ⟨ρ', f2⟩ := f2
    simp only [m_read_polynomial, fnSem, b_read_polynomial, mx_read_polynomial, fnSemX, xb_read_polynomial]
    constructor
    · simp [isi_str, hc, f1]
    · simp [isi_str, hc, f2]
  | some ts =>
    rw [e1] at e
    simp only at e
    split at e
    · cases e
    rename_i hw
    obtain ⟨t1, t2⟩ := rdTerms_ok e1
    have g2 := xt2 (by rw [e1]; simp)
    have et := ev_read_terms (w := w) (r := r) hwd (by simp at w2; omega) e1
    obtain ⟨x3, x4, es⟩ := ev_sumT (y0 := some ⟨.O, false, sd a⟩) (y2 := none) ts z13 none none (fun t ht => by have := (t1 t ht).1; rw [z13_len]; omega)
    have sr : iSq (sApp (opFn m_read_terms) (sCons (sApp2 opSplit (sVar 0) (sCon (.str " "))) sNil)) [some ⟨.O, false, sd a⟩, some ⟨.O, false, il z13⟩, none, none, none] = some (ts.map tmD, [some ⟨.O, false, sd a⟩, some ⟨.O, false, il z13⟩, none, none, none]) := by
      simp [k_blank, os, et]
    have ef : lp_read_polynomial_1 [some ⟨.O, false, sd a⟩, some ⟨.O, false, il z13⟩, none, none, none] = some (.nx [some ⟨.O, false, sd a⟩, some ⟨.O, false, il (sumT ts z13)⟩, none, x3, x4]) := by
      unfold lp_read_polynomial_1
      rw [sFor_ap]
      rw [sr]
      simp only
      rw [fz]
      exact es
    have goN : ∀ (ds : List D) (ρ : Env), forX (sGTup (sGCons (sGName 3) (sGCons (sGName 4) sGNil))) w_read_polynomial_1 xw_read_polynomial_1 ds ρ = none := fun ds => by
      induction ds with
      | nil => exact fun _ => rfl
      | cons d ds ih =>
        intro ρ
        rw [forX]
        split
        · rw [show xw_read_polynomial_1 = xNo from rfl, xNo_ap]
          simp only
          split
          · exact ih _
          · exact ih _
          · rfl
        · rfl
    have xf : xlp_read_polynomial_1 [some ⟨.O, false, sd a⟩, some ⟨.O, false, il z13⟩, none, none, none] = none := by
      unfold xlp_read_polynomial_1 xFor
      rw [sr]
      simp [k_blank, os, g2, goN]
    have ep := pop_loop (y0 := some ⟨.O, false, sd a⟩) (rest := [none, x3, x4]) _ (sumT ts z13) rfl
    have ep : lp_read_polynomial_2 _ = _ := ep
    have tb : ∀ x ∈ trim (sumT ts z13), x.natAbs < 10 ^ 500 := fun x hx => by
      obtain ⟨j, hj⟩ := List.mem_iff_getElem?.mp (trim_mem hx)
      have := sumT_bits ts z13 0 t1 (fun k => by rw [z13_nth]; decide) j
      rw [nth_get hj] at this
      have t3 : ts.length ≤ 50001 := by simp at w2 t2; omega
      have t4 : ts.length * 10 ^ 60 ≤ 50001 * 10 ^ 60 := Nat.mul_le_mul_right _ t3
      have t5 : (50001 : Nat) * 10 ^ 60 < 10 ^ 500 := Nat.lt_of_lt_of_le (by decide) (Nat.le_of_ble_eq_true rfl : (10 : Nat) ^ 65 ≤ 10 ^ 500)
      omega
    have tl13 : (trim (sumT ts z13)).length ≤ 13 := by
      have := trim_len_le (sumT ts z13)
      rw [sumT_len, z13_len] at this
      exact this
    have ew2 := ev_written tb (by omega)
    have wa : asc (wr (trim (sumT ts z13))) = true := by
      unfold wr
      split
      · decide
      · exact wrT_asc _ _
    have en := fun m p => opNe_ss (m := m) (p := p) wa h
    simp only [m_read_polynomial, fnSem, b_read_polynomial, mx_read_polynomial, fnSemX, xb_read_polynomial]
    constructor
    · simp [isi_str, hc, ef, ep, ew2, en, hw]
    · simp [isi_str, hc, xf, ef, ep, ew2, en, hw]
/-- what is no text -/
def NoTxt (d : D) : Prop := m_read_polynomial [d] = none ∧ mx_read_polynomial [d] = some "NoText"
theorem ntx_non : NoTxt .non := by
  have h : ∀ m p, opIsi [⟨m, .non⟩, ⟨p, .ty "str"⟩] = some ⟨.O, .bl false⟩ := fun _ _ => rfl
  simp only [NoTxt, m_read_polynomial, fnSem, b_read_polynomial, mx_read_polynomial, fnSemX, xb_read_polynomial]
  constructor <;> simp [h]
theorem ntx_int {i : Int} : NoTxt (.int i) := by
  simp only [NoTxt, m_read_polynomial, fnSem, b_read_polynomial, mx_read_polynomial, fnSemX, xb_read_polynomial]
  constructor <;> simp
theorem ntx_bl {b : Bool} : NoTxt (.bl b) := by
  simp only [NoTxt, m_read_polynomial, fnSem, b_read_polynomial, mx_read_polynomial, fnSemX, xb_read_polynomial]
  constructor <;> simp
theorem ntx_lst {xs : List D} : NoTxt (.lst xs) := by
  have h : ∀ m p, opIsi [⟨m, .lst xs⟩, ⟨p, .ty "str"⟩] = some ⟨.O, .bl false⟩ := fun _ _ => rfl
  simp only [NoTxt, m_read_polynomial, fnSem, b_read_polynomial, mx_read_polynomial, fnSemX, xb_read_polynomial]
  constructor <;> simp [h]
end Tr

/-! what is written is read: on lists of signs. -/
namespace Tr
open PySem L2 TL NumText
theorem numL_head : ∀ (n : Nat), 1 ≤ n → (numL n).take 1 ≠ [48] := by
  intro n
  induction n using Nat.strongRecOn with
  | _ n ih =>
    intro h
    by_cases q : n < 10
    · rw [numL_lt q]
      intro z
      simp at z
      omega
    · rw [numL_step (by omega), List.take_append_of_le_length (by have := numL_ne (n / 10); exact List.length_pos_iff.mpr this)]
      exact ih (n / 10) (by omega) (by omega)
theorem plain_num {n : Nat} (h1 : 1 ≤ n) (h : n < 10 ^ 60) : plain (numL n) = true := by
  have l := numL_len (k := 60) (by decide) h
  have l1 := List.length_pos_iff.mpr (numL_ne n)
  have hd := numL_head n h1
  have dg := numL_digits n
  simp only [plain, Bool.and_eq_true, decide_eq_true_eq, List.all_eq_true]
  exact ⟨⟨⟨l1, l⟩, by simp [hd]⟩, dg⟩
theorem numL_not {n : Nat} (h : 10 ^ 60 ≤ n) : plain (numL n) = false := by
  cases e : plain (numL n) with
  | false => rfl
  | true =>
    have := plain_lt e
    rw [numL_val] at this
    omega
theorem not_plain {a : List Nat} {c : Nat} (h : c ∈ a) (hc : c < 48 ∨ 57 < c) : plain a = false := by
  cases e : plain a with
  | false => rfl
  | true => have := plain_digits e c h; omega
theorem x_letT (p : Nat) : 120 ∈ letT p := by
  unfold letT
  split <;> simp
theorem star_letT (p : Nat) : 42 ∉ letT p := by
  unfold letT
  have := numL_free (n := p) (s := 42) (.inl (by decide))
  split
  · decide
  · simp [this]
theorem rdPow_letT : ∀ p : Nat, 1 ≤ p → p ≤ 12 → rdPow (letT p) = some p := by
  have : ∀ p : _root_.Fin 13, 1 ≤ p.val → rdPow (letT p.val) = some p.val := by decide +kernel
  intro p h1 h2
  exact this ⟨p, by omega⟩ h1
theorem rdTerm_termT {n p : Nat} (h1 : 1 ≤ n) (h2 : n < 10 ^ 60) (hp : p ≤ 12) : rdTerm (termT n p) = some (n, p) := by
  unfold termT
  by_cases q : p = 0
  · rw [if_pos q, rdTerm, if_pos (plain_num h1 h2), numL_val, q]
  · rw [if_neg q]
    have rp := rdPow_letT p (by omega) hp
    by_cases q2 : n = 1
    · rw [if_pos q2, rdTerm, not_plain (x_letT p) (.inr (by decide)), par_none1 (star_letT p), rp, q2]
      rfl
    · have np : plain (numL n ++ [42] ++ letT p) = false := not_plain (c := 120) (by simp [x_letT]) (.inr (by decide))
      have pp : TL.par [42] [] (numL n ++ [42] ++ letT p) = some (numL n, letT p) := by
        rw [List.append_assoc]
        have := par_part1 (s := 42) (S := []) (p := numL n) (rest := letT p) (acc := []) (numL_free (.inl (by decide)))
        simpa using this
      rw [if_neg q2, rdTerm, np, pp]
      simp only [Bool.false_eq_true, if_false, plain_num h1 h2, if_true, numL_val, rp]
      rfl
/-- no blank within -/
theorem blank_termT (n p : Nat) : 32 ∉ termT n p := by
  have h1 := numL_free (n := n) (s := 32) (.inl (by decide))
  have h2 : 32 ∉ letT p := by
    unfold letT
    have := numL_free (n := p) (s := 32) (.inl (by decide))
    split
    · decide
    · simp [this]
  unfold termT
  split
  · exact h1
  · split
    · exact h2
    · simp [h1, h2]
theorem termT_ne (n p : Nat) : termT n p ≠ [] := by
  unfold termT
  split
  · exact numL_ne n
  · split
    · intro z; have := x_letT p; rw [z] at this; cases this
    · intro z; simp at z
theorem head_termT (n p : Nat) : (termT n p).take 1 ≠ [45] := by
  have hn : ∀ n, ∀ r : List Nat, (numL n ++ r).take 1 ≠ [45] := fun n r z => by
    have l1 := List.length_pos_iff.mpr (numL_ne n)
    rw [List.take_append_of_le_length (by omega)] at z
    have : 45 ∈ numL n := List.mem_of_mem_take (by rw [z]; simp)
    exact numL_free (.inl (by decide)) this
  have hl : (letT p).take 1 ≠ [45] := by
    unfold letT
    split <;> simp
  unfold termT
  split
  · have := hn n []
    rwa [List.append_nil] at this
  · split
    · exact hl
    · rw [List.append_assoc]; exact hn n _
/-! ### the words -/
def wdS (ws : List (List Nat)) (c : Int) (p : Nat) : List (List Nat) :=
  if c = 0 then ws else if ws = [] then [(if c < 0 then [45] else []) ++ termT c.natAbs p] else ws ++ [if c < 0 then [45] else [43], termT c.natAbs p]
def wds (f : List Int) : Nat → List (List Nat)
  | 0 => []
  | k + 1 => wdS (wds f k) (nth f (f.length - 1 - k)) (f.length - 1 - k)
def tmS (ts : List (Int × Nat)) (c : Int) (p : Nat) : List (Int × Nat) := if c = 0 then ts else ts ++ [(c, p)]
def tms (f : List Int) : Nat → List (Int × Nat)
  | 0 => []
  | k + 1 => tmS (tms f k) (nth f (f.length - 1 - k)) (f.length - 1 - k)
theorem joinL_snoc2 {s t : List Nat} : ∀ {ws : List (List Nat)}, ws ≠ [] → joinL [32] (ws ++ [s, t]) = joinL [32] ws ++ ([32] ++ s ++ [32] ++ t)
  | [], h => absurd rfl h
  | [w], _ => by simp [joinL]
  | w :: w2 :: r, _ => by
    have ih := joinL_snoc2 (s := s) (t := t) (ws := w2 :: r) (by simp)
    show w ++ ([32] ++ joinL [32] (w2 :: r ++ [s, t])) = _
    rw [ih]
    show _ = w ++ ([32] ++ joinL [32] (w2 :: r)) ++ _
    simp
theorem joinL_ne : ∀ {ws : List (List Nat)}, ws ≠ [] → (∀ w ∈ ws, w ≠ []) → joinL [32] ws ≠ []
  | [], h, _ => absurd rfl h
  | [w], _, h => h w (by simp)
  | w :: w2 :: r, _, h => by
    show w ++ ([32] ++ joinL [32] (w2 :: r)) ≠ []
    simp
structure WdOk (ws : List (List Nat)) : Prop where
  ne : ∀ w ∈ ws, w ≠ []
  bl : ∀ w ∈ ws, 32 ∉ w
theorem wdS_ok {ws : List (List Nat)} {c : Int} {p : Nat} (h : WdOk ws) : WdOk (wdS ws c p) ∧ joinL [32] (wdS ws c p) = stepT (joinL [32] ws) c p := by
  have tn := termT_ne c.natAbs p
  have tb := blank_termT c.natAbs p
  unfold wdS stepT
  by_cases q : c = 0
  · rw [if_pos q, if_pos q]; exact ⟨h, rfl⟩
  · rw [if_neg q, if_neg q]
    by_cases q2 : ws = []
    · subst q2
      rw [if_pos rfl]
      have e : joinL [32] ([] : List (List Nat)) = [] := rfl
      rw [e, if_pos rfl]
      refine ⟨⟨fun w hw => ?_, fun w hw => ?_⟩, ?_⟩
      · rw [List.mem_singleton.mp hw]; simp [tn]
      · rw [List.mem_singleton.mp hw]; split <;> simp [tb]
      · rfl
    · have jn := joinL_ne q2 h.ne
      rw [if_neg q2, if_neg jn]
      refine ⟨⟨fun w hw => ?_, fun w hw => ?_⟩, ?_⟩
      · rcases List.mem_append.mp hw with hw | hw
        · exact h.ne w hw
        · rcases List.mem_cons.mp hw with rfl | hw
          · split <;> simp
          · rw [List.mem_singleton.mp hw]; exact tn
      · rcases List.mem_append.mp hw with hw | hw
        · exact h.bl w hw
        · rcases List.mem_cons.mp hw with rfl | hw
          · split <;> decide
          · rw [List.mem_singleton.mp hw]; exact tb
      · rw [joinL_snoc2 q2]
        split <;> simp
theorem wds_ok (f : List Int) : ∀ k, WdOk (wds f k) ∧ joinL [32] (wds f k) = wrT f k
  | 0 => ⟨⟨fun w hw => by simp [wds] at hw, fun w hw => by simp [wds] at hw⟩, rfl⟩
  | k + 1 => by
    obtain ⟨h1, h2⟩ := wds_ok f k
    obtain ⟨h3, h4⟩ := wdS_ok (c := nth f (f.length - 1 - k)) (p := f.length - 1 - k) h1
    exact ⟨h3, by rw [wds, h4, h2, wrT]⟩
theorem rdRest_snoc {s t : List Nat} {n p : Nat} (hs : s = [43] ∨ s = [45]) (ht : rdTerm t = some (n, p)) : ∀ {r : List (List Nat)} {l : List (Int × Nat)}, rdRest r = some l → rdRest (r ++ [s, t]) = some (l ++ [((if s = [45] then 0 - (n : Int) else (n : Int)), p)])
  | [], l, h => by
    cases h
    show rdRest [s, t] = _
    simp only [rdRest, if_pos hs, ht]
    rfl
  | [_], _, h => by cases h
  | s' :: t' :: r, ts, h => by
    obtain ⟨q, n', p', l, e1, e2, rfl⟩ := rdRest_step h
    have ih := rdRest_snoc hs ht e2
    show rdRest (s' :: t' :: (r ++ [s, t])) = _
    simp only [rdRest, if_pos q, e1, ih]
    rfl
theorem rdTerms_step {ws : List (List Nat)} {ts : List (Int × Nat)} {c : Int} {p : Nat} (h : ws = [] ∧ ts = [] ∨ rdTerms ws = some ts) (hc : c.natAbs < 10 ^ 60) (hp : p ≤ 12) :
    wdS ws c p = [] ∧ tmS ts c p = [] ∨ rdTerms (wdS ws c p) = some (tmS ts c p) := by
  unfold wdS tmS
  by_cases q : c = 0
  · rw [if_pos q, if_pos q]; exact h
  · rw [if_neg q, if_neg q]
    have rt := rdTerm_termT (n := c.natAbs) (p := p) (by omega) hc hp
    refine .inr ?_
    rcases h with ⟨rfl, rfl⟩ | h
    · rw [if_pos rfl]
      by_cases q2 : c < 0
      · rw [if_pos q2]
        have e : (([45] : List Nat) ++ termT c.natAbs p).take 1 = [45] := rfl
        have e2 : (([45] : List Nat) ++ termT c.natAbs p).drop 1 = termT c.natAbs p := rfl
        simp only [rdTerms, if_pos e, e2, rt]
        simp [rdRest]
        omega
      · rw [if_neg q2, List.nil_append]
        simp only [rdTerms, if_neg (head_termT c.natAbs p), rt]
        simp [rdRest]
        omega
    · cases ws with
      | nil => cases h
      | cons w r =>
        rw [if_neg (by simp)]
        simp only [rdTerms] at h
        cases e1 : rdTerm (if w.take 1 = [45] then w.drop 1 else w) with
        | none => rw [e1] at h; cases h
        | some np =>
          obtain ⟨n, p'⟩ := np
          rw [e1] at h
          cases e2 : rdRest r with
          | none => rw [e2] at h; cases h
          | some l =>
            rw [e2] at h
            cases h
            have sn := rdRest_snoc (s := if c < 0 then [45] else [43]) (by split <;> simp) rt e2
            show rdTerms (w :: (r ++ [_, _])) = _
            simp only [rdTerms, e1, sn]
            have : (if (if c < 0 then [45] else [43]) = ([45] : List Nat) then 0 - ((c.natAbs : Nat) : Int) else ((c.natAbs : Nat) : Int)) = c := by
              by_cases q2 : c < 0
              · rw [if_pos q2, if_pos rfl]; omega
              · rw [if_neg q2, if_neg (by decide)]; omega
            rw [this]
            rfl
theorem wds_read {f : List Int} (hl : f.length ≤ 13) (hc : ∀ x ∈ f, x.natAbs < 10 ^ 60) : ∀ k, wds f k = [] ∧ tms f k = [] ∨ rdTerms (wds f k) = some (tms f k)
  | 0 => .inl ⟨rfl, rfl⟩
  | k + 1 => rdTerms_step (wds_read hl hc k) (by
      by_cases q : f.length - 1 - k < f.length
      · exact hc _ (nth_mem q)
      · rw [nth_ge (by omega)]; decide) (by omega)
theorem sumT_app : ∀ (a b : List (Int × Nat)) (g : List Int), sumT (a ++ b) g = sumT b (sumT a g)
  | [], b, g => rfl
  | (n, p) :: a, b, g => by rw [List.cons_append, sumT, sumT, sumT_app a b]
theorem tms_sum {f : List Int} (hl : f.length ≤ 13) : ∀ k, k ≤ f.length → ∀ j, nth (sumT (tms f k) z13) j = if f.length - k ≤ j then nth f j else 0
  | 0, _, j => by
    rw [tms, sumT, z13_nth]
    split
    · rw [nth_ge (by omega)]
    · rfl
  | k + 1, hk, j => by
    have ih := tms_sum hl k (by omega) j
    have ihp := tms_sum hl k (by omega) (f.length - 1 - k)
    have l13 := sumT_len (tms f k) z13
    rw [z13_len] at l13
    rw [tms, tmS]
    by_cases q : nth f (f.length - 1 - k) = 0
    · rw [if_pos q, ih]
      by_cases z : j = f.length - 1 - k
      · subst z; rw [q]; split <;> simp
      · by_cases z2 : f.length - k ≤ j
        · rw [if_pos z2, if_pos (by omega)]
        · rw [if_neg z2, if_neg (by omega)]
    · rw [if_neg q, sumT_app, sumT, sumT, nth_set (by omega)]
      rw [if_neg (by omega)] at ihp
      by_cases z : j = f.length - 1 - k
      · subst z
        rw [if_pos rfl, ihp, if_pos (by omega)]; simp
      · rw [if_neg z, ih]
        by_cases z2 : f.length - k ≤ j
        · rw [if_pos z2, if_pos (by omega)]
        · rw [if_neg z2, if_neg (by omega)]
theorem stepT_ne {w : List Nat} {c : Int} {p : Nat} (h : w ≠ []) : stepT w c p ≠ [] := by
  unfold stepT
  split
  · exact h
  · simp [h]
theorem stepT_ne2 {w : List Nat} {c : Int} {p : Nat} (h : c ≠ 0) : stepT w c p ≠ [] := by
  unfold stepT
  rw [if_neg h]
  simp [termT_ne]
/-- a text that is not nothing's has words -/
theorem wrT_pos {f : List Int} {j : Nat} (h : nth f (f.length - 1 - j) ≠ 0) : ∀ k, wrT f (j + 1 + k) ≠ []
  | 0 => stepT_ne2 h
  | k + 1 => stepT_ne (wrT_pos h k)
theorem wr_pos {f : List Int} (hf : Trm f) (hn : f ≠ []) : wrT f f.length ≠ [] := by
  have l1 : 1 ≤ f.length := List.length_pos_iff.mpr hn
  have := hf.last hn
  have h := wrT_pos (f := f) (j := 0) (by simpa using this) (f.length - 1)
  rwa [show 0 + 1 + (f.length - 1) = f.length by omega] at h
theorem rd_wr {f : List Int} (hf : Trm f) (hl : f.length ≤ 13) (hc : ∀ x ∈ f, x.natAbs < 10 ^ 60) : rdPoly (wr f) = some f := by
  by_cases hn : f = []
  · subst hn
    decide +kernel
  · have wp := wr_pos hf hn
    obtain ⟨w1, w2⟩ := wds_ok f f.length
    have wn : wds f f.length ≠ [] := fun z => by rw [z] at w2; exact wp w2.symm
    have ew : wr f = wrT f f.length := by unfold wr; rw [if_neg wp]
    have sp : spl [32] 0 [] (wr f) = wds f f.length := by
      rw [ew, ← w2]
      exact spl_join wn w1.bl
    have rd : rdTerms (wds f f.length) = some (tms f f.length) := (wds_read hl hc f.length).resolve_left fun z => wn z.1
    have es : trim (sumT (tms f f.length) z13) = f := by
      have : trim (sumT (tms f f.length) z13) = trim f := trim_ext fun k => by
        rw [tms_sum hl f.length (Nat.le_refl _) k, if_pos (by omega)]
      rw [this]; exact hf
    unfold rdPoly
    rw [sp, rd]
    simp only [es, if_true]
end Tr

namespace Tr
open PySem L2
theorem bag_0 {m p : Mode} {g s : Int} : opIdx [⟨m, .lst [.int g, .int s]⟩, ⟨p, .int 0⟩] = some ⟨.O, .int g⟩ := by simp [opIdx, atI, ixN]
theorem bag_1 {m p : Mode} {g s : Int} : opIdx [⟨m, .lst [.int g, .int s]⟩, ⟨p, .int 1⟩] = some ⟨.O, .int s⟩ := by simp [opIdx, atI, ixN]
/-- a bag of the law -/
def Bag (b : D) : Prop := ∃ g s : Int, b = .lst [.int g, .int s] ∧ 0 ≤ s ∧ s < 2147483648
theorem idx_scr {m p : Mode} {ns : List Int} {k : Int} (h0 : 0 ≤ k) (h : k < ns.length) : opIdx [⟨m, .scr ns⟩, ⟨p, .int k⟩] = some ⟨.O, .int (ns.getD k.toNat 0)⟩ := by
  obtain ⟨j, rfl⟩ : ∃ j : Nat, k = j := ⟨k.toNat, by omega⟩
  have hj : j < ns.length := by omega
  have hn : ¬ ((j : Int) < 0) := by omega
  simp [opIdx, atI, ixN, hn, hj]
theorem ev_bag {ns : List Int} {k : Int} (h0 : 0 ≤ k) (h : k < 1000) : ∃ b, m_u_law_bag [.scr ns, .int k] = some ⟨.O, b⟩ ∧ Bag b := by
  obtain ⟨c, hc⟩ : ∃ c : Int, c = (if k < ns.length then ns.getD k.toNat 0 else 0) := ⟨_, rfl⟩
  obtain ⟨ab, hab⟩ : ∃ ab : Int, ab = (if c < 0 then -c else c) := ⟨_, rfl⟩
  have b1 : bitOk 7919 k = true := bitOk_of (n := 32) (m := 32) (by omega) (by omega) (by decide)
  have r := @fmod_range (c + 7919 * k + 13) 2147483629 (by decide)
  have ea : ∀ m, opAbs [⟨m, .int c⟩] = some ⟨.O, .int ab⟩ := fun m => by rw [hab]; rfl
  refine ⟨.lst [.int (if 1000000000000000000 ≤ ab then ab else 0), .int ((c + 7919 * k + 13).fmod 2147483629 + 1)], ?_, _, _, rfl, by omega, by omega⟩
  by_cases q : k < ns.length
  · rw [if_pos q] at hc
    have e : ∀ m p, opIdx [⟨m, .scr ns⟩, ⟨p, .int k⟩] = some ⟨.O, .int c⟩ := fun m p => by rw [idx_scr h0 q, hc]
    by_cases q2 : 1000000000000000000 ≤ ab <;> simp [m_u_law_bag, fnSem, b_u_law_bag, q, e, b1, q2, ea, -opAbs_i]
  · rw [if_neg q] at hc
    have q2 : ¬ 1000000000000000000 ≤ ab := by rw [hab, hc]; decide
    subst hc
    simp [m_u_law_bag, fnSem, b_u_law_bag, q, b1, q2, ea, -opAbs_i]
theorem ev_take {b : D} (hb : Bag b) {n : Int} (h1 : 1 ≤ n) (h2 : n < 1099511627776) : ∃ (r : Int) (b' : D), m_u_law_take [b, .int n] = some (⟨.O, .int r⟩, b') ∧ 0 ≤ r ∧ r < n ∧ Bag b' := by
  obtain ⟨g, s, rfl, s0, s1⟩ := hb
  have d0 : divOk n = true := divOk_of (n := 40) (by omega) (by omega) (by decide)
  have n0 : ¬ n = 0 := by omega
  by_cases q : 0 < g
  · have r := @fmod_range g n (by omega)
    refine ⟨g.fmod n, .lst [.int (g.fdiv n), .int s], ?_, r.1, r.2, _, _, rfl, s0, s1⟩
    simp [m_u_law_take, fnSemIO, b_u_law_take, startIO, q, d0, n0, bag_0, bag_1, isLst, putAt, atI, ixN]
  · have b1 : bitOk s 48271 = true := bitOk_of (n := 32) (m := 32) (by omega) (by omega) (by decide)
    have r1 := @fmod_range (s * 48271 + 11) 2147483647 (by decide)
    generalize ht : (s * 48271 + 11).fmod 2147483647 = t at *
    have d8 : divOk 8 = true := divOk_of (n := 40) (by omega) (by omega) (by decide)
    have r2 : (t.fdiv 8).natAbs < 2 ^ 32 := by
      rw [Int.fdiv_eq_ediv_of_nonneg _ (by decide)]; omega
    have b2 : bitOk (t.fdiv 8) 69621 = true := bitOk_of (n := 32) (m := 32) r2 (by omega) (by decide)
    have r := @fmod_range ((t.fdiv 8 * 69621).fmod 2147483629) n (by omega)
    refine ⟨((t.fdiv 8 * 69621).fmod 2147483629).fmod n, .lst [.int g, .int t], ?_, r.1, r.2, _, _, rfl, r1.1, by omega⟩
    simp [m_u_law_take, fnSemIO, b_u_law_take, startIO, q, d0, n0, b1, d8, b2, ht, bag_0, bag_1, isLst, putAt, atI, ixN]
end Tr

namespace Tr
open PySem L2
/-- as ev_take, for great ones -/
theorem ev_takeB {b : D} (hb : Bag b) {n : Int} (h1 : 1 ≤ n) (h2 : n.natAbs < 2 ^ 250) : ∃ (r : Int) (b' : D), m_u_law_take [b, .int n] = some (⟨.O, .int r⟩, b') ∧ 0 ≤ r ∧ r < n ∧ Bag b' := by
  obtain ⟨g, s, rfl, s0, s1⟩ := hb
  have dn : divOk n = true := divOk_of (n := 250) (by omega) h2 (by decide)
  have nn : ¬ n = 0 := by omega
  by_cases q : 0 < g
  · have rg := @fmod_range g n (by omega)
    exact ⟨g.fmod n, .lst [.int (g.fdiv n), .int s], by simp [m_u_law_take, fnSemIO, b_u_law_take, startIO, q, dn, nn, bag_0, bag_1, isLst, putAt, atI, ixN], rg.1, rg.2, _, _, rfl, s0, s1⟩
  · have bs : bitOk s 48271 = true := bitOk_of (n := 32) (m := 32) (by omega) (by omega) (by decide)
    have r1 := @fmod_range (s * 48271 + 11) 2147483647 (by decide)
    generalize ht : (s * 48271 + 11).fmod 2147483647 = t at *
    have e8 : divOk 8 = true := divOk_of (n := 40) (by omega) (by omega) (by decide)
    have r2 : (t.fdiv 8).natAbs < 2 ^ 32 := by rw [Int.fdiv_eq_ediv_of_nonneg _ (by decide)]; omega
    have bt : bitOk (t.fdiv 8) 69621 = true := bitOk_of (n := 32) (m := 32) r2 (by omega) (by decide)
    have rg := @fmod_range ((t.fdiv 8 * 69621).fmod 2147483629) n (by omega)
    exact ⟨((t.fdiv 8 * 69621).fmod 2147483629).fmod n, .lst [.int g, .int t], by simp [m_u_law_take, fnSemIO, b_u_law_take, startIO, q, dn, nn, bs, e8, bt, ht, bag_0, bag_1, isLst, putAt, atI, ixN], rg.1, rg.2, _, _, rfl, r1.1, by omega⟩
end Tr

namespace Tr
open PySem L2 TL
theorem pick3 {m p : Mode} {a b c : List Nat} {k : Nat} : opIdx [⟨m, .lst [sd a, sd b, sd c]⟩, ⟨p, .int (min (k : Int) 2)⟩] = some ⟨.O, sd (if k = 0 then a else if k = 1 then b else c)⟩ := by
  by_cases h : k = 0
  · subst h
    have : min ((0 : Nat) : Int) 2 = 0 := rfl
    rw [this]; simp [opIdx, atI, ixN]
  · by_cases h1 : k = 1
    · subst h1
      have : min ((1 : Nat) : Int) 2 = 1 := rfl
      rw [this]; simp [opIdx, atI, ixN]
    · have : min (k : Int) 2 = 2 := by omega
      rw [this]; simp [opIdx, atI, ixN, h, h1]
theorem ev_law_written {f : List Int} (hf : ∀ x ∈ f, x.natAbs < 10 ^ 500) (hl : f.length ≤ 100) : m_u_law_written [il f] = some ⟨.O, sd (wr f)⟩ := by
  obtain ⟨ρ', e, x2, x3, x4, rfl⟩ := sFor_down (fs := (sCons (sApp2 opSub (sApp opLen (sCons (sVar 0) sNil)) (sCon (.int 1))) (sCons (sApp1 opNeg (sCon (.int 1))) (sCons (sApp1 opNeg (sCon (.int 1))) sNil)))) (g := sGName 2) (b := w_u_law_written_1) (N := f.length)
    (ρ := [some ⟨.F, false, il f⟩, some ⟨.O, false, sd []⟩, none, none, none])
    (fun k ρ => ∃ x2 x3 x4 : Option Slot, ρ = [some ⟨.F, false, il f⟩, some ⟨.O, false, sd (wrT f (f.length - k))⟩, x2, x3, x4])
    (m1 := .O) (m2 := .O) (m3 := .O) (by simp; rfl) (by omega) ⟨none, none, none, by simp [wrT]⟩ (by
      rintro k ρ hk ⟨x2, x3, x4, rfl⟩
      have ix := fun m p => idx_il (m := m) (p := p) hk
      have hc := hf _ (nth_mem hk)
      have aw := wrT_asc f (f.length - (k + 1))
      have lw := wrT_len hf hl (f.length - (k + 1))
      have st : wrT f (f.length - k) = stepT (wrT f (f.length - (k + 1))) (nth f k) k := by
        rw [show f.length - k = f.length - (k + 1) + 1 by omega, wrT, show f.length - 1 - (f.length - (k + 1)) = k by omega]
      rw [st]
      generalize wrT f (f.length - (k + 1)) = w at *
      generalize nth f k = c at *
      have lt := termT_len (n := c.natAbs) (p := k) hc (by omega)
      have e0 := fun m p => opEq_ss (m := m) (p := p) aw asc_nil
      have pk := fun (m p : Mode) (a b : List Nat) => str_pick (m := m) (p := p) (a := a) (b := b) (q := c < 0)
      have pz := fun (m p : Mode) (a b : List Nat) => str_pick (m := m) (p := p) (a := a) (b := b) (q := k = 0)
      have ad : ∀ (m p : Mode) (a b : List Nat), a.length ≤ 100000 → b.length ≤ 100000 → opAdd [⟨m, sd a⟩, ⟨p, sd b⟩] = some ⟨.O, sd (a ++ b)⟩ := fun m p a b h1 h2 => by
        rw [opAdd_ss, if_pos (ok_of (by have := sizeLine_big; omega))]
      have lc := numL_len (k := 500) (by decide) hc
      have lk := numL_len (n := k) (k := 6) (by decide) (by omega)
      have sc := opStrI_n (m := .O) (n := c.natAbs) (Nat.lt_of_lt_of_le hc big500)
      have sk := opStrI_n (m := .O) (n := k) (Nat.lt_of_lt_of_le (by omega : k < 10 ^ 6) (Nat.le_of_ble_eq_true rfl))
      have a1 : ∀ m p, opAdd [⟨m, sd [120, 94]⟩, ⟨p, sd (numL k)⟩] = some ⟨.O, sd (120 :: 94 :: numL k)⟩ := fun m p => ad m p [120, 94] (numL k) (by simp) (by omega)
      have a2 := fun m p => ad m p (numL c.natAbs) [42] (by omega) (by simp)
      have p3z : k = 0 → ∀ m p, opIdx [⟨m, .lst [sd [49], sd [120], sd (120 :: 94 :: numL k)]⟩, ⟨p, .int (min (k : Int) 2)⟩] = some ⟨.O, sd [49]⟩ := fun z m p => by
        rw [pick3, if_pos z]
      have p3n : ¬ k = 0 → ∀ m p, opIdx [⟨m, .lst [sd [49], sd [120], sd (120 :: 94 :: numL k)]⟩, ⟨p, .int (min (k : Int) 2)⟩] = some ⟨.O, sd (letT k)⟩ := fun z m p => by
        rw [pick3, if_neg z]; rfl
      have l8 := letT_len (p := k) (by omega)
      have a3 : ∀ (u : List Nat), u.length ≤ 8 → ∀ m p, opAdd [⟨m, sd (numL c.natAbs ++ [42])⟩, ⟨p, sd u⟩] = some ⟨.O, sd (numL c.natAbs ++ 42 :: u)⟩ := fun u hu m p => by
        rw [ad m p _ _ (by simp; omega) (by omega), List.append_assoc]; rfl
      -- the term
      have tm1 : c.natAbs = 1 → ¬ k = 0 → letT k = termT c.natAbs k := fun h1 h2 => by
        rw [termT, if_neg h2, if_pos h1]
      have tm2 : ¬ c.natAbs = 1 → ¬ k = 0 → numL c.natAbs ++ 42 :: letT k = termT c.natAbs k := fun h1 h2 => by
        rw [termT, if_neg h2, if_neg h1]; simp
      have tm0 : k = 0 → numL c.natAbs = termT c.natAbs k := fun h => by rw [termT, if_pos h]
      have sg1 : (if c < 0 then [45] else ([] : List Nat)).length ≤ 1 := by split <;> simp
      have sg2 : (if c < 0 then [32, 45, 32] else ([32, 43, 32] : List Nat)).length ≤ 3 := by split <;> simp
      have b1 := fun m p => ad m p (if c < 0 then [45] else []) (termT c.natAbs k) (by omega) (by omega)
      have b2 := fun m p => ad m p w (if c < 0 then [32, 45, 32] else [32, 43, 32]) (by omega) (by omega)
      have b3 := fun m p => ad m p (w ++ if c < 0 then [32, 45, 32] else [32, 43, 32]) (termT c.natAbs k) (by rw [List.length_append]; omega) (by omega)
      have tail : ∀ y3 : Option Slot, nxIs (sIf (sAnd (sTest (sApp2 opNe (sVar 3) (sCon (.int 0)))) (sTest (sApp2 opEq (sVar 1) (sCon (.str ""))))) (sSet 1 (sApp2 opAdd (sApp2 opIdx (sApp opLst (sCons (sCon (.str "")) (sCons (sCon (.str "-")) sNil))) (sApp opInt (sCons (sApp2 opLt (sVar 3) (sCon (.int 0))) sNil))) (sVar 4))) (sIf (sTest (sApp2 opNe (sVar 3) (sCon (.int 0)))) (sSet 1 (sApp2 opAdd (sApp2 opAdd (sVar 1) (sApp2 opIdx (sApp opLst (sCons (sCon (.str " + ")) (sCons (sCon (.str " - ")) sNil))) (sApp opInt (sCons (sApp2 opLt (sVar 3) (sCon (.int 0))) sNil)))) (sVar 4))) sSkip)
          [some ⟨.F, false, il f⟩, some ⟨.O, false, sd w⟩, y3, some ⟨.O, false, .int c⟩, some ⟨.O, false, sd (termT c.natAbs k)⟩])
          (fun ρ => ∃ x2 x3 x4 : Option Slot, ρ = [some ⟨.F, false, il f⟩, some ⟨.O, false, sd (stepT w c k)⟩, x2, x3, x4]) := fun y3 => by
        unfold stepT
        by_cases q : c = 0
        · have q' := eq_true q
          simp [-opEq_ss, k_empty, e0, q']
        · by_cases q2 : w = []
          · have q2' := eq_true q2
            simp [-opEq_ss, -opAdd_ss, k_empty, k_minus, e0, q, q2', pk, b1]
            rw [q2]; rfl
          · simp [-opEq_ss, -opAdd_ss, k_empty, k_minus, k_bplus, k_bminus, e0, q, q2, pk, b2, b3]
      simp only [w_u_law_written_1, k_1, k_x, k_xh, k_star]
      generalize (sIf (sAnd (sTest (sApp2 opNe (sVar 3) (sCon (.int 0)))) (sTest (sApp2 opEq (sVar 1) (sCon (.str ""))))) (sSet 1 (sApp2 opAdd (sApp2 opIdx (sApp opLst (sCons (sCon (.str "")) (sCons (sCon (.str "-")) sNil))) (sApp opInt (sCons (sApp2 opLt (sVar 3) (sCon (.int 0))) sNil))) (sVar 4))) (sIf (sTest (sApp2 opNe (sVar 3) (sCon (.int 0)))) (sSet 1 (sApp2 opAdd (sApp2 opAdd (sVar 1) (sApp2 opIdx (sApp opLst (sCons (sCon (.str " + ")) (sCons (sCon (.str " - ")) sNil))) (sApp opInt (sCons (sApp2 opLt (sVar 3) (sCon (.int 0))) sNil)))) (sVar 4))) sSkip)) = T at tail ⊢
      by_cases z : k = 0
      · have z' := eq_true z
        have tm0 := tm0 z
        have p3 := p3z z
        have a3 := a3 [49] (by simp)
        simp only [z', if_true] at pz
        by_cases y : c.natAbs = 1
        · have y' : (((c.natAbs : Nat) : Int) = 1) = True := eq_true (by omega)
          simp [-opEq_ss, -opAdd_ss, ix, sk, a1, p3, abs_cast, z', y', sc, a2, a3, pz]
          rw [tm0]
          exact tail _
        · have y' : ¬ (((c.natAbs : Nat) : Int) = 1) := by omega
          simp [-opEq_ss, -opAdd_ss, ix, sk, a1, p3, abs_cast, z', y', sc, a2, a3, pz]
          rw [tm0]
          exact tail _
      · have p3 := p3n z
        have a3 := a3 (letT k) l8
        simp only [if_neg z] at pz
        by_cases y : c.natAbs = 1
        · have y' : (((c.natAbs : Nat) : Int) = 1) = True := eq_true (by omega)
          have tm1 := tm1 y z
          simp [-opEq_ss, -opAdd_ss, ix, sk, a1, p3, abs_cast, z, y']
          rw [tm1]
          exact tail _
        · have tm2 := tm2 y z
          have y' : ¬ (((c.natAbs : Nat) : Int) = 1) := by omega
          simp [-opEq_ss, -opAdd_ss, ix, sk, a1, p3, abs_cast, z, y', sc, a2, a3, pz]
          rw [tm2]
          exact tail _)
  have e : lp_u_law_written_1 _ = _ := e
  have aw := wrT_asc f f.length
  have e0 := fun m p => opEq_ss (m := m) (p := p) aw asc_nil
  simp only [m_u_law_written, fnSem, b_u_law_written, k_empty, k_0]
  unfold wr
  rw [Nat.sub_zero] at e
  by_cases q : wrT f f.length = []
  · have q' := eq_true q
    simp [-opEq_ss, e, e0, q']
  · simp [-opEq_ss, e, e0, q]
end Tr

/-! what the law hears of a text, whatever it is. -/
namespace Tr
open PySem L2 TL NumText
theorem isa1 : isAny tbC tbT "NoText" [.cl "NoPolynomial", .cl "NoPrime", .cl "NoRow", .cl "NoSize", .cl "NotPlain", .cl "NoTower", .cl "TooDeep"] = some false := by rfl
theorem isa2 : isOne tbC tbT "NoText" (.cl "NoText") = some true := by rfl
theorem isa3 : isOne tbC tbT "NoText" (.ty "ValueError") = some true := by rfl
theorem fe : (D.exc "NoText").flat = true := by rfl
theorem csx1 : csX "NoText" = true := by rfl
theorem told_exc {d : D} (hx : d.noX = true) (h : m_read_polynomial [d] = none ∧ mx_read_polynomial [d] = some "NoText") : m_u_law_told [d] = some ⟨.O, .non⟩ := by
  obtain ⟨h1, h2⟩ := h
  have b1 : bt_u_law_told_1 [some (par d), none] = none := by
    by_cases hf : d.flat = true <;> simp [bt_u_law_told_1, hf, par, nrm, h1]
  have x1 : ∃ ρ', xt_u_law_told_1 [some (par d), none] = some ("NoText", ρ') ∧ ρ' = [some (par d), none] := by
    by_cases hf : d.flat = true <;> simp [xt_u_law_told_1, hf, par, nrm, h2]
  obtain ⟨ρ', x1, rfl⟩ := x1
  have t1 : ∀ m n : Mode, opIsX tbC tbT "NoText" [⟨m, .exc "NoText"⟩, ⟨n, .tup [.cl "NoPolynomial", .cl "NoPrime", .cl "NoRow", .cl "NoSize", .cl "NotPlain", .cl "NoTower", .cl "TooDeep"]⟩] = some ⟨.O, .bl false⟩ := fun m n => by
    rw [opIsX, isa1]; rfl
  have t2 : ∀ m n : Mode, opIsX tbC tbT "NoText" [⟨m, .exc "NoText"⟩, ⟨n, .cl "NoText"⟩] = some ⟨.O, .bl true⟩ := fun m n => by
    rw [opIsX, isa2]; rfl
    simp
  have t3 : ∀ m n : Mode, opIsX tbC tbT "NoText" [⟨m, .exc "NoText"⟩, ⟨n, .ty "ValueError"⟩] = some ⟨.O, .bl true⟩ := fun m n => by
    rw [opIsX, isa3]; rfl
    simp
  have s1 : st_u_law_told_1 "NoText" [some (par d), some ⟨.O, false, .exc "NoText"⟩] = some (.nx [some (par d), some ⟨.O, false, .exc "NoText"⟩]) := by
    simp [st_u_law_told_1, t1, t2, t3, fe, D.flats, D.flat, opTup]
  have y1 : sTry bt_u_law_told_1 xt_u_law_told_1 1 csX st_u_law_told_1 [some (par d), none] = some (.nx [some (par d), none]) := by
    unfold sTry
    rw [b1, x1]
    simp [csx1, envNoX, slotNoX, isNone, isExc, hx, s1]
  simp only [m_u_law_told, fnSem, b_u_law_told]
  simp [y1]
/-- a list of figures, or nothing -/
def toD : Option (List Int) → D
  | some f => il f
  | none => .non
theorem ev_told {a : List Nat} (h : asc a = true) (hl : a.length ≤ 50000) : m_u_law_told [sd a] = some ⟨.O, toD (rdPoly a)⟩ := by
  cases e : rdPoly a with
  | none => exact told_exc rfl (ex_read_polynomial h hl e)
  | some f =>
    have er := ev_read_polynomial h hl e
    have b1 : bt_u_law_told_1 [some (par (sd a)), none] = some (.rt ⟨.O, il f⟩ [some (par (sd a)), none]) := by
      simp [bt_u_law_told_1, er]
    simp only [m_u_law_told, fnSem, b_u_law_told]
    have y1 : sTry bt_u_law_told_1 xt_u_law_told_1 1 csX st_u_law_told_1 [some (par (sd a)), none] = some (.rt ⟨.O, il f⟩ [some (par (sd a)), none]) := by
      unfold sTry
      rw [b1]
    simp at y1
    simp [y1, toD]
/-! ### the law's own reading -/
theorem filt_nil {a : List Nat} : (a.filter fun c => !decide (c ∈ figs)) = [] ↔ (a.all fun c => decide (48 ≤ c ∧ c ≤ 57)) = true := by
  rw [List.filter_eq_nil_iff, List.all_eq_true]
  refine ⟨fun h c hc => ?_, fun h c hc => ?_⟩
  · have := h c hc
    simp [figs] at this ⊢
    omega
  · have := h c hc
    simp [figs] at this ⊢
    omega
/-- a comprehension with a test, over like things -/
theorem sLc_dlP {α β : Type} {ρ ρ1 : Env} {ls vs : List Nat} {src : SI} {g : STg} {t : SB} {e : SE} {xs : List α} {f : α → D} {h : β → D} (E : α → Env) (P : α → Bool) (F : α → β) (h1 : src ρ = some (xs.map f, ρ1)) (hr : restore ρ ρ1 = ρ) (hl : xs.length ≤ sizeLine)
    (hg : ∀ x ∈ xs, g (nrm .F (f x)) (hide ls [] vs ρ1) = some (E x)) (hw : ∀ x ∈ xs, wipeE vs (E x) = hide ls [] vs ρ1) (ht : ∀ x ∈ xs, t (E x) = some (P x, E x)) (hf : ∀ x ∈ xs, P x = true → e (E x) = some (⟨.O, h (F x)⟩, E x)) :
    sLc ls [] vs src g t e ρ = some (⟨.O, dl h ((xs.filter P).map F)⟩, ρ) := by
  have q : ∀ (l : List α) (acc : List Val), acc.length + l.length ≤ sizeLine → (∀ x ∈ l, x ∈ xs) → lcGo g t e vs (l.map f) (hide ls [] vs ρ1) acc = some (acc ++ (l.filter P).map (fun x => ⟨.O, h (F x)⟩), hide ls [] vs ρ1) := by
    intro l
    induction l with
    | nil => intro acc _ _; simp [lcGo]
    | cons x l ih =>
      intro acc hl hm
      have hx := hm x (by simp)
      have hl2 : ok (acc.length < sizeLine) = true := ok_of (by simp at hl; omega)
      rw [List.map_cons, lcGo, hg x hx]
      simp only
      rw [ht x hx]
      by_cases hp : P x = true
      · simp [hp, hf x hx hp, hl2, hw x hx, ih (acc ++ [⟨.O, h (F x)⟩]) (by simp at hl ⊢; omega) (fun y hy => hm y (by simp [hy]))]
      · simp [hp, hw x hx, ih acc (by simp at hl ⊢; omega) (fun y hy => hm y (by simp [hy]))]
  have al : ∀ l : List α, allO (l.map fun x => (⟨.O, h (F x)⟩ : Val)) = true := fun l => by
    induction l with
    | nil => rfl
    | cons x l ih => simp [ih]
  have q1 := q xs [] (by simpa using hl) fun x hx => hx
  simp [sLc, sealE, h1, q1, esOk, al, restore_unhide hr, dl]
theorem goods_sds (n : Nat) : ∀ xs : List (List Nat), (∀ x ∈ xs, asc x = true) → D.goods n (xs.map fun l => sd l) = true
  | [], _ => by simp [D.goods]
  | x :: xs, h => by
    have h1 : ∀ n, D.good n (sd x) = true := fun n => by
      have : (sx x).cps.all (fun c => decide (c < 0x110000)) = true := by
        unfold sx
        rw [← Array.all_toList]
        exact h x (by simp)
      cases n <;> exact this
    rw [List.map_cons, D.goods, h1, goods_sds n xs fun y hy => h y (by simp [hy])]
    rfl
theorem opNe_nil {m p : Mode} {xs : List D} (h : D.goods 59 xs = true) : opNe [⟨m, .lst xs⟩, ⟨p, .lst []⟩] = some ⟨.O, .bl (!decide (xs = []))⟩ := by
  have h2 : pyOk (.lst []) = true := pyOk_lst (by simp [D.goods])
  simp only [opNe, pyOk_lst h, h2, Bool.and_self, if_true]
  cases xs with
  | nil => rfl
  | cons x xs => rfl
theorem ev_lvalue {a : List Nat} (h : asc a = true) (hl : a.length ≤ 1000000) : m_u_law_value [sd a] = some ⟨.O, if plain a = true then .int (digitsVal a : Nat) else .non⟩ := by
  have hc : lc_u_law_value_1 [some ⟨.O, false, sd a⟩, none] = some (⟨.O, dl (fun c => sd [c]) ((a.filter fun c => !decide (c ∈ figs)).map fun c => c)⟩, [some ⟨.O, false, sd a⟩, none]) :=
    sLc_dlP (ρ1 := [some ⟨.O, false, sd a⟩, none]) (f := fun c : Nat => sd [c]) (h := fun c : Nat => sd [c]) (xs := a) (fun c => [none, some ⟨.O, false, sd [c]⟩]) (fun c => !decide (c ∈ figs)) (fun c => c)
      (by simp [sx_cps]) (by simp) (sizeN hl) (by simp [hide, view1, List.mapIdx_cons]) (by simp [hide, view1, wipeE, List.mapIdx_cons]) (fun c hc => by simp [k_figs]) (fun c hc _ => by simp)
  have on : ∀ m p, opNe [⟨m, dl (fun c => sd [c]) ((a.filter fun c => !decide (c ∈ figs)).map fun c => c)⟩, ⟨p, .lst []⟩] = some ⟨.O, .bl (!decide ((a.all fun c => decide (48 ≤ c ∧ c ≤ 57)) = true))⟩ := fun m p => by
    unfold dl
    rw [opNe_nil]
    · have : ((((a.filter fun c => !decide (c ∈ figs)).map fun c => c).map fun c => sd [c]) = []) = ((a.all fun c => decide (48 ≤ c ∧ c ≤ 57)) = true) := by
        rw [← filt_nil]
        simp
      simp only [this]
    · have := goods_sds 59 ((a.filter fun c => !decide (c ∈ figs)).map fun c => [c]) (fun x hx => by
        obtain ⟨c, hc, rfl⟩ := List.mem_map.mp hx
        have := List.all_eq_true.mp h c (by simp at hc; exact hc.1)
        simpa [asc] using this)
      rw [List.map_map] at this
      rw [List.map_id']
      exact this
  rw [List.map_id'] at hc
  have on : ∀ m p, opNe [⟨m, dl (fun c => sd [c]) (a.filter fun c => !decide (c ∈ figs))⟩, ⟨p, .lst []⟩] = some ⟨.O, .bl (!(a.all fun c => decide (48 ≤ c ∧ c ≤ 57)))⟩ := fun m p => by
    have := on m p
    rw [List.map_id'] at this
    rw [this]
    cases (a.all fun c => decide (48 ≤ c ∧ c ≤ 57)) <;> rfl
  obtain ⟨B, hB⟩ : ∃ B, B = (a.all fun c => decide (48 ≤ c ∧ c ≤ 57)) := ⟨_, rfl⟩
  have pd : plain a = (decide (1 ≤ a.length) && decide (a.length ≤ 60) && !(decide (a.take 1 = [48]) && !decide (a = [48])) && B) := by rw [hB]; rfl
  have aB : B = true → AllDigits a := fun qd c hc => by
    rw [hB] at qd
    simpa using List.all_eq_true.mp qd c hc
  rw [← hB] at on
  have lz : ok (a.length ≤ sizeLine) = true := ok_of (sizeN hl)
  have ee := fun m p => opEq_ss (m := m) (p := p) h asc_nil
  rw [pd]
  simp only [m_u_law_value, fnSem, b_u_law_value, k_0, k_empty]
  by_cases hn : a = []
  · have hn' := eq_true hn
    simp [ee, hn']
    simp [hn]
  · obtain ⟨c, ht, ix⟩ : ∃ c, a.take 1 = [c] ∧ opIdx [⟨.O, sd a⟩, ⟨.O, .int 0⟩] = some ⟨.O, sd [c]⟩ := by
      cases a with
      | nil => exact absurd rfl hn
      | cons c r => exact ⟨c, rfl, idx_sd (m := .O) (p := .O) (l := c :: r) (k := 0) rfl hl⟩
    have hc1 : asc [c] = true := by rw [← ht]; exact asc_take h 1
    have h0 : asc [48] = true := by decide
    have e1 := opEq_ss (m := .O) (p := .O) hc1 h0
    have e2 := opNe_ss (m := .O) (p := .O) h h0
    have l1 : 1 ≤ a.length := by cases a with
      | nil => exact absurd rfl hn
      | cons c r => simp
    by_cases q : a.length ≤ 60
    · have qi : ¬ (60 : Int) < (a.length : Int) := by omega
      cases B with
      | false => simp [lz, hc, ee, hn, on, qi]
      | true =>
        have ei := opIntS_d (m := .O) (aB rfl) hn (by omega)
        by_cases q1 : c = 48
        · by_cases q2 : a = [48]
          · have q2' := eq_true q2
            simp [lz, hc, ee, hn, on, ix, e1, e2, l1, q, qi, q1, q2', ei, ht]
          · simp [lz, hc, ee, hn, on, ix, e1, e2, l1, q, qi, q1, q2, ei, ht]
        · simp [lz, hc, ee, hn, on, ix, e1, e2, l1, q, qi, q1, ei, ht]
    · have qi : (60 : Int) < (a.length : Int) := by omega
      simp [lz, hc, ee, hn, q, qi]
theorem par_star {S : List Nat} : ∀ {a acc b c : List Nat}, TL.par [42] acc a = some (b, c) → 42 ∈ a
  | [], acc, b, c, h => by cases h
  | x :: r, acc, b, c, h => by
    unfold TL.par at h
    split at h
    · rename_i q
      have : x = 42 := by
        have : pre [42] (x :: r) = true := q
        simp [pre] at this
        exact this
      simp [this]
    · exact List.mem_cons_of_mem _ (par_star (S := S) h)
noncomputable def tailT : SS := (sSeq (sSet 4 (sApp (opFn m_u_law_value) (sCons (sVar 1) sNil)))
    (sSeq (sSet 5 (sApp (opFn m_u_law_value) (sCons (sCutS (sVar 3) (sOSome (sCon (.int 2))) sONone) sNil)))
    (sSeq (sIf (sTest (sApp2 opEq (sVar 3) (sCon (.str "x")))) (sSet 5 (sCon (.int 1))) (sIf (sTest (sApp2 opNe (sCutS (sVar 3) sONone (sOSome (sCon (.int 2)))) (sCon (.str "x^")))) (sSet 5 (sCon .non)) sSkip))
    (sSeq (sIf (sOr (sTest (sApp2 opIsN (sVar 4) (sCon .non))) (sOr (sTest (sApp2 opIsN (sVar 5) (sCon .non))) (sTest (sApp2 opGt (sVar 5) (sCon (.int 12)))))) (sRet (sCon .non)) sSkip)
    (sRet (sApp opTup (sCons (sMove 4) (sCons (sMove 5) sNil))))))))
def tmO : Option (Nat × Nat) → D
  | some (n, p) => .tup [.int (n : Int), .int (p : Int)]
  | none => .non
theorem ev_tailT {b c : List Nat} {x0 x2 : Option Slot} (hb : asc b = true) (lb : b.length ≤ 1000000) (hc : asc c = true) (lc : c.length ≤ 1000000) :
    ∃ ρ', tailT [x0, some ⟨.O, false, sd b⟩, x2, some ⟨.O, false, sd c⟩, none, none] = some (.rt ⟨.O, tmO (if plain b = true then (rdPow c).map fun p => (digitsVal b, p) else none)⟩ ρ') := by
  have hx : asc [120] = true := by decide
  have hxh : asc [120, 94] = true := by decide
  have v1 := ev_lvalue hb lb
  have v2 := ev_lvalue (asc_drop hc 2) (by rw [List.length_drop]; omega)
  have e1 := fun m p => opEq_ss (m := m) (p := p) hc hx
  have e2 := fun m p => opNe_ss (m := m) (p := p) (asc_take hc 2) hxh
  have ct : L2.cutS (sx c) none (some 2) = sx (c.take 2) := cutS_to 2
  have cf : L2.cutS (sx c) (some 2) none = sx (c.drop 2) := cutS_from 2
  have lz : ok ((sx c).length ≤ sizeLine) = true := ok_of (by rw [sx_len]; exact sizeN lc)
  have lz2 : ok (c.length ≤ sizeLine) = true := ok_of (sizeN lc)
  simp only [tailT, k_x, k_xh, rdPow]
  by_cases q0 : plain b = true
  · simp only [q0, if_true] at v1
    by_cases q : c = [120]
    · have q' := eq_true q
      by_cases q2 : plain (c.drop 2) = true
      · simp only [q2, if_true] at v2
        simp [v1, v2, e1, e2, ct, cf, lz, lz2, q', q0, tmO, D.isNon]
      · simp only [if_neg q2] at v2
        simp [v1, v2, e1, e2, ct, cf, lz, lz2, q', q0, tmO, D.isNon]
    · by_cases q1 : c.take 2 = [120, 94]
      · by_cases q2 : plain (c.drop 2) = true
        · simp only [q2, if_true] at v2
          by_cases q3 : digitsVal (c.drop 2) ≤ 12
          · have q4 : ¬ (12 : Int) < (digitsVal (c.drop 2) : Int) := by omega
            simp [v1, v2, e1, e2, ct, cf, lz, lz2, q, q1, q2, q3, q4, q0, tmO, D.isNon]
          · have q4 : (12 : Int) < (digitsVal (c.drop 2) : Int) := by omega
            simp [v1, v2, e1, e2, ct, cf, lz, lz2, q, q1, q2, q3, q4, q0, tmO, D.isNon]
        · simp only [if_neg q2] at v2
          simp [v1, v2, e1, e2, ct, cf, lz, lz2, q, q1, q2, q0, tmO, D.isNon]
      · by_cases q2 : plain (c.drop 2) = true
        · simp only [q2, if_true] at v2
          simp [v1, v2, e1, e2, ct, cf, lz, lz2, q, q1, q2, q0, tmO, D.isNon]
        · simp only [if_neg q2] at v2
          simp [v1, v2, e1, e2, ct, cf, lz, lz2, q, q1, q2, q0, tmO, D.isNon]
  · simp only [if_neg q0] at v1 ⊢
    by_cases q : c = [120]
    · have q' := eq_true q
      by_cases q2 : plain (c.drop 2) = true
      · simp only [q2, if_true] at v2
        simp [v1, v2, e1, e2, ct, cf, lz, lz2, q', q0, tmO, D.isNon]
      · simp only [if_neg q2] at v2
        simp [v1, v2, e1, e2, ct, cf, lz, lz2, q', q0, tmO, D.isNon]
    · by_cases q1 : c.take 2 = [120, 94]
      · by_cases q2 : plain (c.drop 2) = true
        · simp only [q2, if_true] at v2
          simp [v1, v2, e1, e2, ct, cf, lz, lz2, q, q1, q2, q0, tmO, D.isNon]
        · simp only [if_neg q2] at v2
          simp [v1, v2, e1, e2, ct, cf, lz, lz2, q, q1, q2, q0, tmO, D.isNon]
      · by_cases q2 : plain (c.drop 2) = true
        · simp only [q2, if_true] at v2
          simp [v1, v2, e1, e2, ct, cf, lz, lz2, q, q1, q2, q0, tmO, D.isNon]
        · simp only [if_neg q2] at v2
          simp [v1, v2, e1, e2, ct, cf, lz, lz2, q, q1, q2, q0, tmO, D.isNon]
theorem ev_lterm {a : List Nat} (h : asc a = true) (hl : a.length ≤ 1000000) : m_u_law_term [sd a] = some ⟨.O, tmO (rdTerm a)⟩ := by
  have op := opPart_sx (m := .O) (p := .O) (a := a) (by omega)
  have e0 := fun m p => opEq_ss (m := m) (p := p) (a := []) (b := []) asc_nil asc_nil
  have e42 := fun m p => opEq_ss (m := m) (p := p) (a := [42]) (b := []) (by decide) asc_nil
  have va := ev_lvalue h hl
  have eb : b_u_law_term = (sSeq (sAsg (sGTup (sGCons (sGName 1) (sGCons (sGName 2) (sGCons (sGName 3) sGNil)))) (sApp2 opPart (sVar 0) (sCon (.str "*"))))
    (sSeq (sIf (sAnd (sTest (sApp2 opEq (sVar 2) (sCon (.str "")))) (sTest (sApp2 (opInS true) (sCon (.str "x")) (sVar 0)))) (sRet (sIfE (sTest (sApp2 opIsN (sApp (opFn m_u_law_value) (sCons (sVar 0) sNil)) (sCon .non))) (sCon .non) (sApp opTup (sCons (sApp (opFn m_u_law_value) (sCons (sVar 0) sNil)) (sCons (sCon (.int 0)) sNil))))) sSkip)
    (sSeq (sIf (sTest (sApp2 opEq (sVar 2) (sCon (.str "")))) (sPar 1 3 (sCons (sCon (.str "1")) (sCons (sMove 0) sNil))) sSkip) tailT))) := rfl
  simp only [m_u_law_term, fnSem]
  rw [eb]
  simp only [k_star, k_empty, k_x, k_1]
  cases e : TL.par [42] [] a with
  | none =>
    rw [e] at op
    by_cases qx : 120 ∈ a
    · have pn : plain a = false := not_plain qx (by omega)
      have et : rdTerm a = (rdPow a).map fun p => (1, p) := by simp [rdTerm, pn, e]
      obtain ⟨ρ', t⟩ := ev_tailT (b := [49]) (c := a) (x0 := some ⟨.O, false, sd a⟩) (x2 := some ⟨.O, false, sd []⟩) (by decide) (by decide) h hl
      have p1 : plain [49] = true := by decide
      have d1 : digitsVal [49] = 1 := by decide
      rw [p1, d1] at t
      simp only [if_true] at t
      rw [et]
      simp [op, e0, qx, D.flats, t]
    · have rn : rdPow a = none := by
        unfold rdPow
        rw [if_neg (fun z => qx (by rw [z]; simp)), if_neg]
        rintro ⟨z, _⟩
        apply qx
        have : 120 ∈ a.take 2 := by rw [z]; simp
        exact List.mem_of_mem_take this
      by_cases q : plain a = true
      · simp only [q, if_true] at va
        simp [op, e0, qx, D.flats, va, rdTerm, q, tmO, D.isNon]
      · simp only [if_neg q] at va
        simp [op, e0, qx, D.flats, va, rdTerm, q, e, rn, tmO, D.isNon]
  | some bc =>
    obtain ⟨b, c⟩ := bc
    rw [e] at op
    obtain ⟨q1, q2, q3, q4⟩ := par_asc e rfl h
    simp at q3
    have pn : plain a = false := not_plain (par_star (S := []) e) (by omega)
    have et : rdTerm a = if plain b = true then (rdPow c).map fun p => (digitsVal b, p) else none := by simp [rdTerm, pn, e]
    obtain ⟨ρ', t⟩ := ev_tailT (b := b) (c := c) (x0 := some ⟨.O, false, sd a⟩) (x2 := some ⟨.O, false, sd [42]⟩) q1 (by omega) q2 (by omega)
    rw [et]
    simp [op, e42, D.flats, t]
end Tr

set_option exponentiation.threshold 1000
/-! what the law awaits of a text: the same reading. -/
namespace Tr
open PySem L2 TL NumText
/-! ### the words -/
theorem spl_acc : ∀ (l p acc : List Nat), ∃ w r, spl [32] 0 acc l = w :: r ∧ spl [32] 0 (p ++ acc) l = (p ++ w) :: r
  | [], p, acc => ⟨acc, [], by rw [spl_nil], by rw [spl_nil]⟩
  | c :: l, p, acc => by
    by_cases q : pre [32] (c :: l) = true
    · exact ⟨acc, spl [32] 0 [] l, by rw [spl_hit q]; rfl, by rw [spl_hit q]; rfl⟩
    · have q := Bool.eq_false_iff.mpr q
      obtain ⟨w, r, e1, e2⟩ := spl_acc l p (acc ++ [c])
      exact ⟨w, r, by rw [spl_miss q, e1], by rw [spl_miss q, List.append_assoc, e2]⟩
/-- the sign ahead, the words -/
def sgn (a : List Nat) : List Nat := if a.take 1 = [45] then [45] else [43]
def bod (a : List Nat) : List Nat := if a.take 1 = [45] then a.drop 1 else a
theorem spl_head (a : List Nat) : ∃ w r, spl [32] 0 [] a = w :: r ∧ spl [32] 0 [] (bod a) = bod w :: r ∧ sgn a = sgn w := by
  cases a with
  | nil => exact ⟨[], [], rfl, rfl, rfl⟩
  | cons c l =>
    by_cases q : c = 45
    · subst q
      obtain ⟨w, r, e1, e2⟩ := spl_acc l [45] []
      have h : spl [32] 0 [] (45 :: l) = spl [32] 0 [45] l := spl_miss (by simp [pre])
      refine ⟨45 :: w, r, by rw [h]; exact e2, ?_, ?_⟩
      · show spl [32] 0 [] l = w :: r
        exact e1
      · rfl
    · by_cases q2 : c = 32
      · subst q2
        have h : spl [32] 0 [] (32 :: l) = [] :: spl [32] 0 [] l := spl_hit (by simp [pre])
        exact ⟨[], spl [32] 0 [] l, h, h, rfl⟩
      · obtain ⟨w, r, e1, e2⟩ := spl_acc l [c] []
        have h : spl [32] 0 [] (c :: l) = spl [32] 0 [c] l := spl_miss (by simp [pre]; exact fun z => q2 z)
        have b1 : bod (c :: l) = c :: l := by unfold bod; rw [if_neg (by simp [q])]
        have b2 : bod (c :: w) = c :: w := by unfold bod; rw [if_neg (by simp [q])]
        have s1 : sgn (c :: l) = [43] := by unfold sgn; rw [if_neg (by simp [q])]
        have s2 : sgn (c :: w) = [43] := by unfold sgn; rw [if_neg (by simp [q])]
        exact ⟨c :: w, r, by rw [h]; exact e2, by rw [b1, b2, h]; exact e2, by rw [s1, s2]⟩
theorem spl_sign {s : Nat} (hs : s ≠ 32) (l : List Nat) : spl [32] 0 [] ([s, 32] ++ l) = [s] :: spl [32] 0 [] l := by
  have h1 : spl [32] 0 [] ([s, 32] ++ l) = spl [32] 0 [s] (32 :: l) := spl_miss (by simp [pre]; exact fun z => hs z)
  rw [h1]
  exact spl_hit (by simp [pre])
theorem rd_due (w : List Nat) (r : List (List Nat)) : rdRest (sgn w :: bod w :: r) = rdTerms (w :: r) := by
  have hs : sgn w = [43] ∨ sgn w = [45] := by unfold sgn; split <;> simp
  rw [rdRest, if_pos hs, rdTerms]
  show (match rdTerm (bod w) with | some (n, p) => _ | none => none) = (match rdTerm (bod w) with | some (n, p) => _ | none => none)
  cases e : rdTerm (bod w) with
  | none => rfl
  | some np =>
    obtain ⟨n, p⟩ := np
    have : (if sgn w = [45] then 0 - (n : Int) else (n : Int)) = (if w.take 1 = [45] then -1 else 1) * (n : Int) := by
      unfold sgn
      by_cases q : w.take 1 = [45]
      · rw [if_pos q, if_pos rfl, if_pos q]; omega
      · rw [if_neg q, if_neg (by decide), if_neg q]; omega
    simp only [this]
/-! ### the loop -/
theorem in_pmL {m p : Mode} {s : List Nat} (h : asc s = true) : opIn true [⟨m, sd s⟩, ⟨p, .lst [sd [43], sd [45]]⟩] = some ⟨.O, .bl (!(decide (s = [43]) || decide (s = [45])))⟩ := by
  have e : ∀ x y : List Nat, PyData.eqv (sd x).py (sd y).py = decide (x = y) := fun x y => by
    show PyData.eqv (.str (sx x)) (.str (sx y)) = _
    rw [eqv_str]
    simp only [sx_inj]
  simp only [opIn, D.atom, List.all_cons, List.all_nil, Bool.and_self, if_true, List.any_cons, List.any_nil, e, Bool.or_false, Bool.true_bne]
  have c : ∀ x : List Nat, decide (x = s) = decide (s = x) := fun x => decide_eq_decide.mpr eq_comm
  rw [c, c]
def duE (a : List Nat) (V : List (List Nat)) (f : List Int) (x3 x4 : Option Slot) : Env := [some ⟨.O, false, sd a⟩, some ⟨.O, false, dl sd V⟩, some ⟨.O, false, il f⟩, x3, x4]
section
variable {a : List Nat} {V : List (List Nat)} {f : List Int} {x3 x4 : Option Slot} {k : Nat} {s t : List Nat}
theorem due_bad (hw : wordsOk V) (h1 : V[k]? = some s) (h2 : V[k + 1]? = some t) (hb : ¬ (s = [43] ∨ s = [45]) ∨ rdTerm t = none) (h4 : x4 = none ∨ ∃ d, x4 = some ⟨.O, false, tmO d⟩) : ∃ ρ', w_u_law_due_1 (duE a V f (some ⟨.O, false, .int (k : Int)⟩) x4) = some (.rt ⟨.O, .non⟩ ρ') := by
  obtain ⟨as, ls⟩ := hw s (List.mem_of_getElem? h1)
  obtain ⟨at', lt⟩ := hw t (List.mem_of_getElem? h2)
  have i1 := fun m p => idx_w (ws := V) (m := m) (p := p) (k := k) (w := s) h1
  have i2 := fun m p => idx_w (ws := V) (m := m) (p := p) (k := k + 1) (w := t) h2
  have ir := fun m p => in_pmL (m := m) (p := p) as
  have et := ev_lterm at' (by omega)
  obtain ⟨kk, hkk⟩ : ∃ kk : Int, kk = (k : Int) := ⟨_, rfl⟩
  have ek2 : ((k + 1 : Nat) : Int) = kk + 1 := by omega
  rw [ek2] at i2
  rw [← hkk] at i1 ⊢
  have x4' : ∃ y4, x4 = y4 ∧ ∀ (d : D), setSlot (duE a V f (some ⟨.O, false, .int kk⟩) x4) 4 ⟨.O, d⟩ = some (duE a V f (some ⟨.O, false, .int kk⟩) (some ⟨.O, false, d⟩)) := by
    refine ⟨x4, rfl, fun d => ?_⟩
    unfold duE
    rcases h4 with rfl | ⟨d', rfl⟩ <;> simp
  obtain ⟨y4, rfl, ss⟩ := x4'
  unfold duE at ss ⊢
  simp only [w_u_law_due_1, k_plus, k_minus]
  cases e : rdTerm t with
  | none =>
    rw [e] at et
    by_cases q1 : s = [43]
    · have q1' := eq_true q1
      simp [i1, i2, ir, et, ss, q1', tmO, D.isNon]
    · by_cases q2 : s = [45]
      · have q2' := eq_true q2
        simp [i1, i2, ir, et, ss, q1, q2', tmO, D.isNon]
      · simp [i1, i2, ir, et, ss, q1, q2, tmO, D.isNon]
  | some np =>
    obtain ⟨n, p⟩ := np
    rw [e] at et
    have hb := hb.resolve_right (by rw [e]; simp)
    have q1 : ¬ s = [43] := fun z => hb (.inl z)
    have q2 : ¬ s = [45] := fun z => hb (.inr z)
    simp [i1, i2, ir, et, ss, q1, q2, tmO, D.isNon, D.flats]
theorem due_good {n p : Nat} (hw : wordsOk V) (h1 : V[k]? = some s) (h2 : V[k + 1]? = some t) (hs : s = [43] ∨ s = [45]) (ht : rdTerm t = some (n, p)) (hp : p < f.length) (h4 : x4 = none ∨ ∃ d, x4 = some ⟨.O, false, tmO d⟩) :
    w_u_law_due_1 (duE a V f (some ⟨.O, false, .int (k : Int)⟩) x4) = some (.nx (duE a V (f.set p (nth f p + (if s = [45] then 0 - (n : Int) else (n : Int)))) (some ⟨.O, false, .int (k : Int)⟩) (some ⟨.O, false, tmO (some (n, p))⟩))) := by
  obtain ⟨as, ls⟩ := hw s (List.mem_of_getElem? h1)
  obtain ⟨at', lt⟩ := hw t (List.mem_of_getElem? h2)
  have i1 := fun m p => idx_w (ws := V) (m := m) (p := p) (k := k) (w := s) h1
  have i2 := fun m p => idx_w (ws := V) (m := m) (p := p) (k := k + 1) (w := t) h2
  have ir := fun m p => in_pmL (m := m) (p := p) as
  have et := ev_lterm at' (by omega)
  rw [ht] at et
  obtain ⟨hn, _⟩ := rdTerm_le ht
  obtain ⟨kk, hkk⟩ : ∃ kk : Int, kk = (k : Int) := ⟨_, rfl⟩
  have ek2 : ((k + 1 : Nat) : Int) = kk + 1 := by omega
  rw [ek2] at i2
  rw [← hkk] at i1 ⊢
  have ss : ∀ (d : D), setSlot (duE a V f (some ⟨.O, false, .int kk⟩) x4) 4 ⟨.O, d⟩ = some (duE a V f (some ⟨.O, false, .int kk⟩) (some ⟨.O, false, d⟩)) := fun d => by
    unfold duE
    rcases h4 with rfl | ⟨d', rfl⟩ <;> simp
  have am : asc [43] = true := by decide
  have e43 := fun m p => opEq_ss (m := m) (p := p) as am
  have bo : ∀ s : Int, s.natAbs ≤ 1 → bitOk (n : Int) s = true := fun s h => bitOk_of (n := 200) (m := 1) (by
    rw [Int.natAbs_natCast]
    exact Nat.lt_of_lt_of_le hn (by decide)) (by omega) (by decide)
  have b1 := bo 1 (by decide)
  have b2 := bo (-1) (by decide)
  have pk0 : ∀ m p, opIdx [⟨m, .lst [.int (-1), .int 1]⟩, ⟨p, .int 0⟩] = some ⟨.O, .int (-1)⟩ := fun m p => by simp [opIdx, atI, ixN]
  have pk1 : ∀ m p, opIdx [⟨m, .lst [.int (-1), .int 1]⟩, ⟨p, .int 1⟩] = some ⟨.O, .int 1⟩ := fun m p => by simp [opIdx, atI, ixN]
  have j1 := intAt_il (m := .O) (lk := false) hp
  have p1 := fun (c : Int) => putS_il (lk := false) (a := nth f p + c) hp
  unfold duE at ss ⊢
  simp only [w_u_law_due_1, k_plus, k_minus]
  by_cases q : s = [45]
  · have q' := eq_true q
    have q2 : ¬ s = [43] := by rw [q]; decide
    simp [i1, i2, ir, et, ss, q2, q', tmO, D.isNon, D.flats, nrm, e43, b1, b2, j1, p1, pk0, pk1]
  · have q2 := eq_true (hs.resolve_right q)
    simp [i1, i2, ir, et, ss, q, q2, tmO, D.isNon, D.flats, nrm, e43, b1, b2, j1, p1, pk0, pk1]
theorem set_3 {x3 : Option Slot} (h : x3 = none ∨ ∃ i : Int, x3 = some ⟨.O, false, .int i⟩) {i : Int} : sGName 3 (nrm .F (.int i)) (duE a V f x3 x4) = some (duE a V f (some ⟨.O, false, .int i⟩) x4) := by
  unfold duE
  rcases h with rfl | ⟨j, rfl⟩ <;> simp
theorem due_go (hw : wordsOk V) : ∀ (m k : Nat) (r : List (List Nat)) (f : List Int) (x3 x4 : Option Slot), V.drop k = r → r.length = 2 * m → f.length = 13 → (x3 = none ∨ ∃ i : Int, x3 = some ⟨.O, false, .int i⟩) → (x4 = none ∨ ∃ d, x4 = some ⟨.O, false, tmO d⟩) →
    (rdRest r = none → ∃ ρ', forGo (sGName 3) w_u_law_due_1 (ups (k : Int) m) (duE a V f x3 x4) = some (.rt ⟨.O, .non⟩ ρ')) ∧
    (∀ ts, rdRest r = some ts → ∃ y3 y4, forGo (sGName 3) w_u_law_due_1 (ups (k : Int) m) (duE a V f x3 x4) = some (.nx (duE a V (sumT ts f) y3 y4)))
  | 0, k, r, f, x3, x4, hr, hm, hf, h3, h4 => by
    have : r = [] := List.length_eq_zero_iff.mp (by omega)
    subst this
    exact ⟨fun z => (nomatch z), fun ts e => by cases e; exact ⟨x3, x4, rfl⟩⟩
  | m + 1, k, r, f, x3, x4, hr, hm, hf, h3, h4 => by
    have g0 : ∀ j, V[k + j]? = r[j]? := fun j => by rw [← hr, List.getElem?_drop]
    cases r with
    | nil => simp at hm
    | cons s r =>
      cases r with
      | nil => simp at hm; omega
      | cons t r =>
        have h1 : V[k]? = some s := g0 0
        have h2 : V[k + 1]? = some t := g0 1
        have sk := set_3 (a := a) (V := V) (f := f) (x4 := x4) h3 (i := (k : Int))
        rw [ups, go_step sk]
        by_cases hb : ¬ (s = [43] ∨ s = [45]) ∨ rdTerm t = none
        · obtain ⟨ρ', e1⟩ := due_bad (a := a) (f := f) hw h1 h2 hb h4
          have en : rdRest (s :: t :: r) = none := by
            unfold rdRest
            rcases hb with hb | hb
            · rw [if_neg hb]
            · split
              · rw [hb]
              · rfl
          rw [e1, en]
          exact ⟨fun _ => ⟨ρ', rfl⟩, fun ts z => (by cases z)⟩
        · have hs : s = [43] ∨ s = [45] := Classical.byContradiction fun z => hb (.inl z)
          obtain ⟨⟨n, p⟩, ht⟩ : ∃ q, rdTerm t = some q := Option.ne_none_iff_exists'.mp fun z => hb (.inr z)
          have hp := (rdTerm_le ht).2
          have e1 := due_good (a := a) (f := f) hw h1 h2 hs ht (by omega) h4
          have ih := due_go hw m (k + 2) r (f.set p (nth f p + (if s = [45] then 0 - (n : Int) else (n : Int)))) (some ⟨.O, false, .int (k : Int)⟩) (some ⟨.O, false, tmO (some (n, p))⟩) (by rw [← List.drop_drop, hr]; rfl) (by simp at hm; omega) (by rw [List.length_set]; exact hf) (.inr ⟨_, rfl⟩) (.inr ⟨_, rfl⟩)
          have er : rdRest (s :: t :: r) = (rdRest r).map fun l => ((if s = [45] then 0 - (n : Int) else (n : Int)), p) :: l := by
            rw [rdRest, if_pos hs, ht]
          rw [e1, er]
          rw [show ((k + 2 : Nat) : Int) = (k : Int) + 2 by omega] at ih
          cases e3 : rdRest r with
          | none => exact ⟨fun _ => ih.1 e3, fun ts z => (by cases z)⟩
          | some l =>
            refine ⟨fun z => (by cases z), fun ts z => ?_⟩
            cases z
            exact ih.2 l e3
end
theorem pop_il2 {y0 y1 : Option Slot} {rest : Env} {xs : List Int} {a : Int} : sPop 2 (y0 :: y1 :: some ⟨.O, false, il (xs ++ [a])⟩ :: rest) = some (⟨.O, .int a⟩, y0 :: y1 :: some ⟨.O, false, il xs⟩ :: rest) := by
  simp [sPop, dl]
theorem pop_loop2 {y0 y1 : Option Slot} {rest : Env} : ∀ (n : Nat) (xs : List Int), xs.length = n →
    sWhile (sAnd (sTest (sApp2 opNe (sVar 2) (sApp opLst sNil))) (sTest (sApp2 opEq (sApp2 opIdx (sVar 2) (sApp1 opNeg (sCon (.int 1)))) (sCon (.int 0))))) (sDrop (sPop 2)) (y0 :: y1 :: some ⟨.O, false, il xs⟩ :: rest) = some (.nx (y0 :: y1 :: some ⟨.O, false, il (trim xs)⟩ :: rest))
  | 0, xs, h => by
    obtain rfl : xs = [] := List.length_eq_zero_iff.mp h
    exact while_false (by simp [opNe_il0]; rfl)
  | n + 1, xs, h => by
    obtain ⟨ys, a, rfl⟩ : ∃ ys a, xs = ys ++ [a] := ⟨xs.dropLast, xs.getLast (by intro z; rw [z] at h; cases h), (List.dropLast_concat_getLast _).symm⟩
    have hy : ys.length = n := by simp at h; exact h
    have ne : ¬ (ys ++ [a] = []) := by simp
    have ix := fun m p => idx_last (m := m) (p := p) (f := D.int) (xs := ys) (x := a)
    have nr : ∀ m, nrm m (.int a) = ⟨.O, .int a⟩ := fun _ => rfl
    by_cases z : a = 0
    · subst z
      rw [trim_snoc0, while_step (ρ1 := y0 :: y1 :: some ⟨.O, false, il (ys ++ [0])⟩ :: rest) (ρ2 := y0 :: y1 :: some ⟨.O, false, il ys⟩ :: rest) (by simp [opNe_il0, ix, nr]) (by simp [sDrop_ap, pop_il2])]
      exact pop_loop2 n ys hy
    · rw [trim_snoc z]
      exact while_false (by simp [opNe_il0, ix, nr, z])
theorem ev_due {a : List Nat} (h : asc a = true) (hl : a.length ≤ 50000) : m_u_law_due [sd a] = some ⟨.O, toD (rdPoly a)⟩ := by
  obtain ⟨w, r, ew, eb, es⟩ := spl_head a
  obtain ⟨w1, w2, w3⟩ := spl_ok a [] asc_nil h
  obtain ⟨V, hV⟩ : ∃ V, V = sgn a :: bod w :: r := ⟨_, rfl⟩
  have hsg : asc (sgn a) = true := by unfold sgn; split <;> decide
  have lsg : (sgn a).length ≤ 100000 := by unfold sgn; split <;> simp
  have hwV : wordsOk V := by
    rw [hV]
    rw [ew] at w1
    intro u hu
    simp only [List.mem_cons] at hu
    rcases hu with rfl | rfl | hu
    · exact ⟨hsg, lsg⟩
    · obtain ⟨q1, q2⟩ := w1 w (by simp)
      unfold bod
      split
      · exact ⟨asc_drop q1 1, by rw [List.length_drop]; simp at q2; omega⟩
      · exact ⟨q1, by simp at q2; omega⟩
    · obtain ⟨q1, q2⟩ := w1 u (by simp [hu])
      exact ⟨q1, by simp at q2; omega⟩
  have rlen : r.length ≤ 50000 := by rw [ew] at w2; simp at w2; omega
  have eV : rdRest V = rdTerms (spl [32] 0 [] a) := by rw [hV, es, ew]; exact rd_due w r
  have am : asc [45] = true := by decide
  have ct : L2.cutS (sx a) none (some 1) = sx (a.take 1) := cutS_to 1
  have cf : L2.cutS (sx a) (some 1) none = sx (a.drop 1) := cutS_from 1
  have lz : ok (a.length ≤ sizeLine) = true := ok_of (sizeN (by omega : a.length ≤ 1000000))
  have lz2 : ok (2 + a.length ≤ sizeLine) = true := ok_of (sizeN (by omega : 2 + a.length ≤ 1000000))
  have lz3 : ok (2 + (a.length - 1) ≤ sizeLine) = true := ok_of (sizeN (by omega : 2 + (a.length - 1) ≤ 1000000))
  have e45 := fun m p => opEq_ss (m := m) (p := p) (asc_take h 1) am
  have sp : Str.ofString "+ " = sx [43, 32] := by decide +kernel
  have sm : Str.ofString "- " = sx [45, 32] := by decide +kernel
  have os1 : ∀ m p, opSplit [⟨m, sd (43 :: 32 :: a)⟩, ⟨p, sd [32]⟩] = some ⟨.O, dl sd ([43] :: spl [32] 0 [] a)⟩ := fun m p => by
    rw [← spl_sign (by decide)]
    exact opSplit_sx (by simp; omega)
  have os2 : ∀ m p, opSplit [⟨m, sd (45 :: 32 :: a.drop 1)⟩, ⟨p, sd [32]⟩] = some ⟨.O, dl sd ([45] :: spl [32] 0 [] (a.drop 1))⟩ := fun m p => by
    rw [← spl_sign (by decide)]
    exact opSplit_sx (by simp; omega)
  have lcz : ∀ y1 y2 y3 y4, lc_u_law_due_1 [some ⟨.O, false, sd a⟩, y1, y2, y3, y4] = some (⟨.O, il z13⟩, [some ⟨.O, false, sd a⟩, y1, y2, y3, y4]) := fun y1 y2 y3 y4 => by
    have := sLc_dl (ρ := [some ⟨.O, false, sd a⟩, y1, y2, y3, y4]) (ls := []) (vs := [3]) (src := iRange1 (sCons (sCon (.int 13)) sNil)) (g := sGName 3) (e := sCon (.int 0)) (f := fun k : Nat => D.int (k : Int)) (h := D.int) (xs := List.range 13) (fun k => [none, none, none, some ⟨.O, false, .int (k : Int)⟩, none]) (fun k => 0)
      (by simp; rfl) (by have := sizeLine_big; rw [List.length_range]; omega) (by simp [hide, view1, List.mapIdx_cons]) (by simp [hide, view1, wipeE, List.mapIdx_cons]) (fun k hk => by simp)
    exact this
  have rg : ∀ {ρ : Env} {m : Nat}, V.length = 2 * m → (sCons (sCon (.int 0)) (sCons (sApp opLen (sCons (sVar 1) sNil)) (sCons (sCon (.int 2)) sNil))) ρ = some ([⟨.O, .int 0⟩, ⟨.O, .int (V.length : Nat)⟩, ⟨.O, .int 2⟩], ρ) → iRange3 (sCons (sCon (.int 0)) (sCons (sApp opLen (sCons (sVar 1) sNil)) (sCons (sCon (.int 2)) sNil))) ρ = some (ups 0 m, ρ) := fun {ρ m} hm h => by
    have lV : V.length ≤ 60000 := by rw [hV]; simp; omega
    rw [iRange3_gen (m1 := .O) (m2 := .O) (m3 := .O) (N := m) (i := 0) (j := (V.length : Nat)) (c := 2) h (by decide) (by omega) (by decide) (by decide) ?_ (by omega), ups_step]
    unfold Builtin.Range.rangeSize
    rw [if_pos (by decide)]
    split <;> omega
  have lpV : ∀ {m : Nat}, V.length = 2 * m → lp_u_law_due_1 (duE a V z13 none none) = forGo (sGName 3) w_u_law_due_1 (ups 0 m) (duE a V z13 none none) := fun {m} hm => by
    have r1 := rg (ρ := duE a V z13 none none) hm (by unfold duE; simp)
    have fz : freeze2 (duE a V z13 none none) (duE a V z13 none none) = duE a V z13 none none := by unfold duE; simp
    unfold lp_u_law_due_1
    rw [sFor_ap, r1]
    simp only [fz]
  -- from the third statement on
  have main : ∃ ρ', (sSeq (sSet 2 lc_u_law_due_1)
    (sSeq (sIf (sTest (sApp2 opEq (sApp2 opMod (sApp opLen (sCons (sVar 1) sNil)) (sCon (.int 2))) (sCon (.int 1)))) (sRet (sCon .non)) sSkip)
    (sSeq lp_u_law_due_1
    (sSeq lp_u_law_due_2
    (sSeq (sIf (sTest (sApp2 opNe (sApp (opFn m_u_law_written) (sCons (sVar 2) sNil)) (sVar 0))) (sRet (sCon .non)) sSkip)
    (sRet (sMove 2))))))) [some ⟨.O, false, sd a⟩, some ⟨.O, false, dl sd V⟩, none, none, none] = some (.rt ⟨.O, toD (rdPoly a)⟩ ρ') := by
    by_cases ev : V.length % 2 = 0
    · obtain ⟨m, hm⟩ : ∃ m, V.length = 2 * m := ⟨V.length / 2, by omega⟩
      have go := due_go (a := a) hwV m 0 V z13 none none rfl hm z13_len (.inl rfl) (.inl rfl)
      have lp := lpV hm
      have nz : ((V.length : Nat) : Int).fmod 2 = 0 := by rw [Int.fmod_eq_emod_of_nonneg _ (by decide)]; omega
      rw [eV] at go
      rw [show ((0 : Nat) : Int) = 0 from rfl] at go
      unfold rdPoly
      cases e1 : rdTerms (spl [32] 0 [] a) with
      | none =>
        obtain ⟨ρ', g⟩ := go.1 e1
        rw [← lp] at g
        unfold duE at g
        simp [lcz, nz, g, toD]
      | some ts =>
        obtain ⟨y3, y4, g⟩ := go.2 ts e1
        rw [← lp] at g
        unfold duE at g
        obtain ⟨t1, t2⟩ := rdTerms_ok e1
        have ep := pop_loop2 (y0 := some ⟨.O, false, sd a⟩) (y1 := some ⟨.O, false, dl sd V⟩) (rest := [y3, y4]) _ (sumT ts z13) rfl
        have ep : lp_u_law_due_2 _ = _ := ep
        have tb : ∀ x ∈ trim (sumT ts z13), x.natAbs < 10 ^ 500 := fun x hx => by
          obtain ⟨j, hj⟩ := List.mem_iff_getElem?.mp (trim_mem hx)
          have := sumT_bits ts z13 0 t1 (fun k => by rw [z13_nth]; decide) j
          rw [nth_get hj] at this
          have t3 : ts.length ≤ 50001 := by omega
          have t4 : ts.length * 10 ^ 60 ≤ 50001 * 10 ^ 60 := Nat.mul_le_mul_right _ t3
          have t5 : (50001 : Nat) * 10 ^ 60 < 10 ^ 500 := Nat.lt_of_lt_of_le (by decide) (Nat.le_of_ble_eq_true rfl : (10 : Nat) ^ 65 ≤ 10 ^ 500)
          omega
        have tl13 : (trim (sumT ts z13)).length ≤ 13 := by
          have := trim_len_le (sumT ts z13)
          rw [sumT_len, z13_len] at this
          exact this
        have ew2 := ev_law_written tb (by omega)
        have wa : asc (wr (trim (sumT ts z13))) = true := by
          unfold wr
          split
          · decide
          · exact wrT_asc _ _
        have en := fun m p => opNe_ss (m := m) (p := p) wa h
        by_cases hw : wr (trim (sumT ts z13)) = a
        · have hw' := eq_true hw
          simp [lcz, nz, g, ep, ew2, en, hw', toD]
        · simp [lcz, nz, g, ep, ew2, en, hw, toD]
    · have nz : ((V.length : Nat) : Int).fmod 2 = 1 := by rw [Int.fmod_eq_emod_of_nonneg _ (by decide)]; omega
      have rn : rdRest V = none := by
        cases e : rdRest V with
        | none => rfl
        | some ts => have := rdRest_even e; omega
      rw [eV] at rn
      simp only [rdPoly, rn]
      simp [lcz, nz, toD]
  obtain ⟨ρ', main⟩ := main
  simp only [m_u_law_due, fnSem, b_u_law_due, sp, sm, k_minus, k_blank]
  generalize hT : (sSeq (sSet 2 lc_u_law_due_1) _) = T at main ⊢
  by_cases q : a.take 1 = [45]
  · have q' := eq_true q
    have hV2 : V = [45] :: spl [32] 0 [] (a.drop 1) := by
      have b1 : bod a = a.drop 1 := by unfold bod; rw [if_pos q]
      have b2 : sgn a = [45] := by unfold sgn; rw [if_pos q]
      rw [hV, b2, ← eb, b1]
    rw [← hV2] at os2
    simp [-List.drop_one, lz, lz2, lz3, os1, os2, e45, ct, cf, q', main]
  · have hV2 : V = [43] :: spl [32] 0 [] a := by
      have b1 : bod a = a := by unfold bod; rw [if_neg q]
      have b2 : sgn a = [43] := by unfold sgn; rw [if_neg q]
      rw [hV, b2, ← eb, b1]
    rw [← hV2] at os1
    simp [lz, lz2, os1, e45, ct, q, main]
end Tr

/-! the law's polynomials, drawn. -/
namespace Tr
open PySem L2 TL
theorem ev_lnumber {b : D} (hb : Bag b) : ∃ (c : Int) (b' : D), m_u_law_number [b] = some (⟨.O, .int c⟩, b') ∧ c.natAbs < 10 ^ 60 ∧ Bag b' := by
  obtain ⟨w, b1, e1, w0, w8, hb1⟩ := ev_take hb (n := 8) (by decide) (by decide)
  obtain ⟨s, b2, e2, s0, s2, hb2⟩ := ev_take hb1 (n := 2) (by decide) (by decide)
  have p60 : ok ((0 : Int) ≤ 60 ∧ (60 : Int) ≤ 1000000 ∧ (10 : Int).natAbs < 2 ^ 64) = true := ok_of (by decide)
  obtain ⟨t, b3, e3, t0, t1, hb3⟩ := ev_takeB hb2 (n := 10 ^ 60) (by decide) (by decide)
  have t1' : t.natAbs < 10 ^ 60 := by omega
  rw [show (10 : Int) ^ 60 = 1000000000000000000000000000000000000000000000000000000000000 by decide] at e3
  by_cases q1 : w < 2
  · refine ⟨0, b2, ?_, by decide, hb2⟩
    have bo : bitOk 2 s = true := bitOk_of (n := 10) (m := 10) (by decide) (by omega) (by decide)
    simp only [m_u_law_number, fnSemIO, b_u_law_number, startIO]
    simp [e1, e2, q1, bo]
  · by_cases q2 : w = 2
    · subst q2
      refine ⟨1 - 2 * s, b2, ?_, by omega, hb2⟩
      have bo : bitOk 2 s = true := bitOk_of (n := 10) (m := 10) (by decide) (by omega) (by decide)
      simp only [m_u_law_number, fnSemIO, b_u_law_number, startIO]
      simp [e1, e2, bo]
    · by_cases q3 : w = 3
      · subst q3
        refine ⟨(1 - 2 * s) * t, b3, ?_, ?_, hb3⟩
        · have bo : bitOk 2 s = true := bitOk_of (n := 10) (m := 10) (by decide) (by omega) (by decide)
          have bt : bitOk (1 - 2 * s) t = true := bitOk_of (n := 10) (m := 250) (by omega) (by omega) (by decide)
          simp only [m_u_law_number, fnSemIO, b_u_law_number, startIO]
          simp [e1, e2, bo, e3, bt]
        · rcases (by omega : s = 0 ∨ s = 1) with rfl | rfl <;> omega
      · have r3 := @fmod_range w 3 (by decide)
        obtain ⟨far, ef, f1, f2⟩ : ∃ far : Int, (∀ m p : Mode, opIdx [⟨m, .lst [.int 10, .int 1000, .int 1000000000]⟩, ⟨p, .int (w.fmod 3)⟩] = some ⟨.O, .int far⟩) ∧ 1 ≤ far ∧ far ≤ 1000000000 := by
          rcases (by omega : w.fmod 3 = 0 ∨ w.fmod 3 = 1 ∨ w.fmod 3 = 2) with q | q | q
          · exact ⟨10, fun m p => by rw [q]; simp [opIdx, atI, ixN], by decide, by decide⟩
          · exact ⟨1000, fun m p => by rw [q]; simp [opIdx, atI, ixN], by decide, by decide⟩
          · exact ⟨1000000000, fun m p => by rw [q]; simp [opIdx, atI, ixN], by decide, by decide⟩
        obtain ⟨u, b4, e4, u0, u1, hb4⟩ := ev_take hb2 (n := far) f1 (by omega)
        refine ⟨(1 - 2 * s) * u, b4, ?_, ?_, hb4⟩
        · have bo : bitOk 2 s = true := bitOk_of (n := 10) (m := 10) (by decide) (by omega) (by decide)
          have bt : bitOk (1 - 2 * s) u = true := bitOk_of (n := 10) (m := 250) (by omega) (by omega) (by decide)
          simp only [m_u_law_number, fnSemIO, b_u_law_number, startIO]
          simp [e1, e2, bo, q1, q2, q3, ef, e4, bt]
        · rcases (by omega : s = 0 ∨ s = 1) with rfl | rfl <;> omega
/-- numbers drawn one by one -/
theorem num_lc : ∀ (ds : List D) (b : D) (acc : List Int), Bag b → acc.length + ds.length ≤ 1000 → (∀ d ∈ ds, ∃ k : Int, d = .int k) → ∃ (cs : List Int) (b' : D),
    lcGo (sGName 2) sYes (sCallIO 0 m_u_law_number sNil) [2] ds [some ⟨.O, false, b⟩, none, none] (acc.map fun c => ⟨.O, .int c⟩) = some ((acc ++ cs).map fun c => ⟨.O, .int c⟩, [some ⟨.O, false, b'⟩, none, none]) ∧
    cs.length = ds.length ∧ (∀ c ∈ cs, c.natAbs < 10 ^ 60) ∧ Bag b'
  | [], b, acc, hb, _, _ => ⟨[], b, by simp [lcGo], rfl, by simp, hb⟩
  | d :: ds, b, acc, hb, hl, hd => by
    obtain ⟨k, rfl⟩ := hd d (by simp)
    obtain ⟨c, b1, e1, hc, hb1⟩ := ev_lnumber hb
    obtain ⟨cs, b2, e2, l2, h2, hb2⟩ := num_lc ds b1 (acc ++ [c]) hb1 (by simp at hl ⊢; omega) (fun d hd' => hd d (by simp [hd']))
    refine ⟨c :: cs, b2, ?_, by simp [l2], fun x hx => ?_, hb2⟩
    · have sz : ok (acc.length < sizeLine) = true := ok_of (by have := sizeLine_big; simp at hl; omega)
      rw [lcGo]
      simp [e1, sz, wipeE, List.mapIdx_cons]
      simp at e2
      exact e2
    · rcases List.mem_cons.mp hx with rfl | hx
      · exact hc
      · exact h2 x hx
theorem ev_lpolynomial {b : D} (hb : Bag b) : ∃ (f : List Int) (b' : D), m_u_law_polynomial [b] = some (⟨.O, il f⟩, b') ∧ Trm f ∧ f.length ≤ 13 ∧ (∀ x ∈ f, x.natAbs < 10 ^ 60) ∧ Bag b' := by
  obtain ⟨n, b1, e1, n0, n14, hb1⟩ := ev_take hb (n := 14) (by decide) (by decide)
  obtain ⟨N, rfl⟩ : ∃ N : Nat, n = N := ⟨n.toNat, by omega⟩
  have sN : small (N : Int) = true := small_of (by omega)
  obtain ⟨cs, b2, e2, l2, h2, hb2⟩ := num_lc (up 0 N) b1 [] hb1 (by simp [up]; omega) (fun d hd => by
    obtain ⟨k, _, rfl⟩ := List.mem_map.mp hd
    exact ⟨_, rfl⟩)
  have hc : lc_u_law_polynomial_1 [some ⟨.O, false, b⟩, none, none] = some (⟨.O, il cs⟩, [some ⟨.O, false, b2⟩, none, none]) := by
    have al : ∀ l : List Int, allO (l.map fun c => (⟨.O, .int c⟩ : Val)) = true := fun l => by
      induction l with
      | nil => rfl
      | cons x l ih => simp [ih]
    have ms : (cs.map fun c => (⟨.O, .int c⟩ : Val)).map (fun (x : Val) => x.d) = cs.map D.int := by simp
    unfold lc_u_law_polynomial_1 sLc sealE
    simp [e1, sN, esOk, hide, List.mapIdx_cons]
    simp at e2
    rw [e2]
    simp [al, unhide, List.mapIdx_cons, dl]
  have ep := pop_loop (y0 := some ⟨.O, false, b2⟩) (rest := [none]) _ cs rfl
  have ep : lp_u_law_polynomial_1 _ = _ := ep
  refine ⟨trim cs, b2, ?_, Trm.trim cs, ?_, fun x hx => h2 x (trim_mem hx), hb2⟩
  · simp only [m_u_law_polynomial, fnSemIO, b_u_law_polynomial, startIO]
    simp [hc, ep]
  · have := trim_len_le cs
    have l3 : cs.length = N := by rw [l2]; simp [up]
    omega
theorem wr_asc (f : List Int) : asc (wr f) = true := by
  unfold wr
  split
  · decide
  · exact wrT_asc f _
end Tr

namespace Tr
open PySem L2 PS
/-! lists of lists of ints -/
abbrev ill (xs : List (List Int)) : D := dl il xs
section
variable {m p : Mode} {ρ ρ1 : Env} {lk : Bool}
theorem eqv_ills : ∀ {a b : List (List Int)}, PyData.eqvAll (D.pys (a.map il)) (D.pys (b.map il)) = decide (a = b)
  | [], [] => by simp
  | [], _ :: _ => by simp [PyData.eqvAll]
  | _ :: _, [] => by simp [PyData.eqvAll]
  | x :: xs, y :: ys => by
    have ih := @eqv_ills xs ys
    simp only [List.map_cons, pys_cons, eqvAll_cons, py_dl, eqv_lst, eqv_ints, ih, List.cons.injEq]
    by_cases h : x = y <;> by_cases h2 : xs = ys <;> simp [h, h2]
theorem goods_ills (n : Nat) : ∀ xs : List (List Int), D.goods (n + 1) (xs.map il) = true
  | [] => by simp
  | x :: xs => by simp [dl, goods_ints, goods_ills n xs]
@[simp] theorem pyOk_ill {xs : List (List Int)} : pyOk (ill xs) = true := pyOk_good (by simp [dl, goods_ills])
@[simp] theorem opEq_ill {xs ys : List (List Int)} : opEq [⟨m, ill xs⟩, ⟨p, ill ys⟩] = some ⟨.O, .bl (decide (xs = ys))⟩ := by
  rw [opEq_ap, if_pos (by simp)]
  simp [eqv_ills]
@[simp] theorem opNe_ill {xs ys : List (List Int)} : opNe [⟨m, ill xs⟩, ⟨p, ill ys⟩] = some ⟨.O, .bl (!decide (xs = ys))⟩ := by
  rw [opNe_ap, if_pos (by simp)]
  simp [eqv_ills]
theorem opEq_ill0 {xs : List (List Int)} : opEq [⟨m, ill xs⟩, ⟨p, .lst []⟩] = some ⟨.O, .bl (decide (xs = []))⟩ := opEq_ill (ys := [])
theorem opNe_ill0 {xs : List (List Int)} : opNe [⟨m, ill xs⟩, ⟨p, .lst []⟩] = some ⟨.O, .bl (!decide (xs = []))⟩ := opNe_ill (ys := [])
@[simp] theorem ill_inj {xs ys : List (List Int)} : (ill xs = ill ys) = (xs = ys) := dl_inj fun a b h => by rwa [il_inj] at h
theorem ill_nil : D.lst [] = ill [] := rfl
@[simp] theorem apnd_ill {xs : List (List Int)} {x : List Int} : apnd ⟨.O, lk, ill xs⟩ ⟨.O, il x⟩ = if ok (xs.length < sizeLine) = true then some ⟨.O, false, ill (xs ++ [x])⟩ else none := by
  simp [apnd, dl]
theorem apnd_ill0 {xs : List (List Int)} : apnd ⟨.O, lk, ill xs⟩ ⟨.O, .lst []⟩ = if ok (xs.length < sizeLine) = true then some ⟨.O, false, ill (xs ++ [[]])⟩ else none := apnd_ill (x := [])
theorem idx_ill {xs : List (List Int)} {k : Nat} {x : List Int} (h : xs[k]? = some x) : opIdx [⟨m, ill xs⟩, ⟨p, .int (k : Int)⟩] = some ⟨kidL m, il x⟩ := by rw [idx_dl h, nrm_dl]
theorem idx_illLast {xs : List (List Int)} {x : List Int} : opIdx [⟨m, ill (xs ++ [x])⟩, ⟨p, .int (-1)⟩] = some ⟨kidL m, il x⟩ := by rw [idx_last, nrm_dl]
@[simp] theorem sPop_ap {i : Nat} : sPop i ρ = (match ρ[i]? with
  | some (some ⟨m, false, .lst xs⟩) =>
    (match m, xs.getLast? with
    | .O, some d => some (⟨.O, d⟩, ρ.set i (some ⟨.O, false, .lst xs.dropLast⟩))
    | .S, some d => some (nrm .F d, ρ.set i (some ⟨.S, false, .lst xs.dropLast⟩))
    | _, _ => none)
  | _ => none) := rfl
theorem sPop_dl {α : Type} {f : α → D} {xs : List α} {x : α} {i : Nat} (h : ρ[i]? = some (some ⟨.O, false, dl f (xs ++ [x])⟩)) : sPop i ρ = some (⟨.O, f x⟩, ρ.set i (some ⟨.O, false, dl f xs⟩)) := by
  unfold sPop
  rw [h]
  simp [dl]
theorem restore_lock {j : Nat} {d : D} (h : ρ[j]? = some (some ⟨.O, false, d⟩)) : restore ρ (ρ.set j (some ⟨.O, true, d⟩)) = ρ := by
  apply List.ext_getElem?
  intro t
  rw [restore_get _ _ (by simp)]
  by_cases q : j = t
  · subst q
    rw [h, get_set_same h]
    rfl
  · rw [List.getElem?_set_ne q]
    cases e : ρ[t]? with
    | none => rfl
    | some a => cases a <;> simp [relock]
theorem appAt_ill {j k : Nat} {c : Int} {ds : List (List Int)} {d : List Int} (h : ρ[j]? = some (some ⟨.O, false, ill ds⟩)) (hd : ds[k]? = some d) (hz : d.length < 1000000) :
    sAppAt j k .base (sCon (.int c)) ρ = some (ρ.set j (some ⟨.O, false, ill (ds.set k (d ++ [c]))⟩)) := by
  have hx : (ds.map il)[k]? = some (il d) := by simp [hd]
  have sz : ok ((d.map D.int).length < sizeLine) = true := ok_of (by have := sizeLine_big; simp; omega)
  have e1 := restore_lock h
  unfold ill at h e1
  unfold sAppAt
  simp only [dl] at h e1 hx ⊢
  rw [h]
  simp only [hx, pEv]
  simp only [sCon_ap, sz, and_self, if_true]
  have e2 : (ds.map il).map (fun z => z) = ds.map il := by simp
  congr 1
  rw [e1]
  congr 3
  simp only [D.put, hx]
  rw [List.map_set]
  congr 1
  simp [dl]
theorem faGo_ill {j : Nat} {c : Int} : ∀ (m : Nat) (es : List (List Int)) (ρ' : Env) (k' : Nat), ρ'[j]? = some (some ⟨.O, false, ill es⟩) → k' + m = es.length → (∀ d ∈ es.drop k', d.length < 100000) →
    faGo j .base (sCon (.int c)) k' m ρ' = some (ρ'.set j (some ⟨.O, false, ill (es.take k' ++ (es.drop k').map (· ++ [c]))⟩)) := by
  intro m
  induction m with
  | zero =>
    intro es ρ' k' h hk _
    have e1 : es.take k' = es := List.take_of_length_le (by omega)
    have e2 : es.drop k' = [] := List.drop_eq_nil_of_le (by omega)
    rw [faGo, e1, e2, List.map_nil, List.append_nil]
    congr 1
    apply List.ext_getElem?
    intro t
    by_cases q : j = t
    · subst q
      rw [h, get_set_same h]
    · rw [List.getElem?_set_ne q]
  | succ m ih =>
    intro es ρ' k' h hk hz
    have kl : k' < es.length := by omega
    have hd : es[k']? = some es[k'] := List.getElem?_eq_getElem kl
    have ed : es.drop k' = es[k'] :: es.drop (k' + 1) := List.drop_eq_getElem_cons kl
    have ml : es[k'].length < 100000 := hz _ (by rw [ed]; exact List.mem_cons_self)
    rw [faGo, appAt_ill h hd (by omega)]
    simp only
    have h2 : (ρ'.set j (some ⟨.O, false, ill (es.set k' (es[k'] ++ [c]))⟩))[j]? = some (some ⟨.O, false, ill (es.set k' (es[k'] ++ [c]))⟩) := get_set_same h
    rw [ih _ _ (k' + 1) h2 (by simp; omega) (fun d hd => hz d (by
      rw [ed]
      rw [List.drop_set_of_lt (by omega)] at hd
      exact List.mem_cons_of_mem _ hd))]
    congr 1
    rw [List.set_set]
    congr 4
    have e3 : (es.set k' (es[k'] ++ [c])).take (k' + 1) = es.take k' ++ [es[k'] ++ [c]] := by
      rw [List.take_set, List.take_succ, hd]
      simp only [Option.toList_some]
      rw [List.set_append_right _ _ (by rw [List.length_take]; omega), List.length_take, Nat.min_eq_left (by omega)]
      simp
    rw [e3, List.drop_set_of_lt (by omega), ed, List.map_cons, List.append_assoc]
    rfl
theorem sForApp_ill {j i : Nat} {c : Int} {ds : List (List Int)} (h : ρ[j]? = some (some ⟨.O, false, ill ds⟩)) (hij : i ≠ j) (hi : i < ρ.length) (hz : ∀ d ∈ ds, d.length < 100000) :
    sForApp j i .base (sCon (.int c)) ρ = some (.nx ((ρ.set i none).set j (some ⟨.O, false, ill (ds.map (· ++ [c]))⟩))) := by
  have h2 : (ρ.set i none)[j]? = some (some ⟨.O, false, ill ds⟩) := by rw [List.getElem?_set_ne hij]; exact h
  have q := faGo_ill (c := c) (ds.map il).length ds _ 0 h2 (by simp) (by simpa using hz)
  have hn : ¬ (i = j ∨ ρ.length ≤ i) := by omega
  unfold sForApp
  unfold ill at h
  simp only [dl] at h ⊢
  rw [h]
  simp only [hn, if_false, q]
  simp [dl]
end
/-! digits -/
def dval (key : List Int) : List (List Int) → List Int
  | [] => []
  | d :: r => pAdd d (pMul key (dval key r))
def dsum (key : PS Int) : List (List Int) → PS Int
  | [] => 0
  | d :: r => pc d + key * dsum key r
theorem pc_dval (key : List Int) : ∀ ds, pc (dval key ds) = dsum (pc key) ds
  | [] => pc_nil
  | d :: r => by rw [dval, pc_pAdd, pc_pMul, pc_dval key r, dsum]
theorem trm_dval (key : List Int) : ∀ ds, Trm (dval key ds)
  | [] => rfl
  | d :: r => trm_pAdd _ _
/-- digits by a key: of lesser degree, the last not nothing -/
structure Digs (key : List Int) (ds : List (List Int)) : Prop where
  trm : ∀ d ∈ ds, Trm d
  len : ∀ d ∈ ds, d.length < key.length
  last : ∀ ys, ds ≠ ys ++ [[]]
theorem Digs.tail {key d : List Int} {ds : List (List Int)} (h : Digs key (d :: ds)) : Digs key ds :=
  ⟨fun x hx => h.trm x (by simp [hx]), fun x hx => h.len x (by simp [hx]), fun ys e => h.last (d :: ys) (by rw [e]; rfl)⟩
theorem Digs.zero {key : List Int} (hk : Monic key) : ∀ {ds : List (List Int)}, Digs key ds → dsum (pc key) ds = 0 → ds = []
  | [], _, _ => rfl
  | d :: ds, h, e => by
    rw [dsum] at e
    have e1 : pc (dval key ds) * pc key + pc d = 0 := by rw [pc_dval]; grind
    have z := div_zero hk (trm_dval key ds) (h.len d (by simp)) e1
    have e2 : dsum (pc key) ds = 0 := by rw [← pc_dval, z, pc_nil]
    have z2 := Digs.zero hk h.tail e2
    have e3 : pc d = pc [] := by rw [e2] at e; rw [pc_nil]; grind
    have z3 : d = [] := Trm.eq (h.trm d (by simp)) rfl e3
    subst z2 z3
    exact absurd rfl (h.last [])
theorem Digs.unique {key : List Int} (hk : Monic key) : ∀ {ds es : List (List Int)}, Digs key ds → Digs key es → dsum (pc key) ds = dsum (pc key) es → ds = es
  | [], es, _, h2, e => (h2.zero hk e.symm).symm
  | d :: ds, [], h1, _, e => h1.zero hk e
  | d :: ds, x :: es, h1, h2, e => by
    rw [dsum, dsum, ← pc_dval, ← pc_dval] at e
    obtain ⟨u1, u2⟩ := div_unique (q := dval key ds) (q' := dval key es) (r := d) (r' := x) hk (trm_dval _ _) (trm_dval _ _) (h1.trm d (by simp)) (h2.trm x (by simp)) (h1.len d (by simp)) (h2.len x (by simp)) (by grind)
    have := Digs.unique hk h1.tail h2.tail (by rw [← pc_dval, ← pc_dval, u1])
    rw [u2, this]
theorem dval_drop {key : List Int} {ds : List (List Int)} {k : Nat} {d : List Int} (h : ds[k]? = some d) : dval key (ds.drop k) = pAdd d (pMul key (dval key (ds.drop (k + 1)))) := by
  obtain ⟨hk, e⟩ := List.getElem?_eq_some_iff.mp h
  rw [List.drop_eq_getElem_cons hk, e, dval]
theorem dval_len {key : List Int} {n : Nat} : ∀ {ds : List (List Int)}, (∀ d ∈ ds, d.length ≤ n) → (dval key ds).length ≤ n + ds.length * key.length
  | [], _ => by simp [dval]
  | d :: ds, h => by
    have h1 := dval_len (key := key) fun x hx => h x (List.mem_cons_of_mem d hx)
    have h2 := pAdd_len d (pMul key (dval key ds))
    have h3 := pMul_len key (dval key ds)
    have h4 := h d (by simp)
    rw [dval, List.length_cons, Nat.add_mul, Nat.one_mul]
    omega
theorem dval_bits {key : List Int} {a b L T : Nat} (bk : ∀ x ∈ key, x.natAbs < 2 ^ b) : ∀ {ds : List (List Int)}, b + L + (ds.length + 1) * key.length + 1 ≤ T → (∀ d ∈ ds, d.length ≤ L) → (∀ d ∈ ds, ∀ x ∈ d, x.natAbs < 2 ^ a) → ∀ x ∈ dval key ds, x.natAbs < 2 ^ (a + ds.length * T)
  | [], _, _, _ => by simp [dval]
  | d :: ds, hT, hL, h => fun x hx => by
    have e1 : ((d :: ds).length + 1) * key.length = ds.length * key.length + key.length + key.length := by rw [List.length_cons, Nat.add_mul, Nat.add_mul]; omega
    have e2 : (ds.length + 1) * key.length = ds.length * key.length + key.length := by rw [Nat.add_mul, Nat.one_mul]
    have e3 : (d :: ds).length * T = ds.length * T + T := by rw [List.length_cons, Nat.add_mul, Nat.one_mul]
    rw [e1] at hT
    have h1 := dval_bits (a := a) (T := T) bk (by rw [e2]; omega) (fun x hx => hL x (List.mem_cons_of_mem d hx)) (fun x hx => h x (List.mem_cons_of_mem d hx))
    have l1 := dval_len (key := key) fun x hx => hL x (List.mem_cons_of_mem d hx)
    rw [dval] at hx
    rw [e3]
    have p1 := pMul_bits bk h1
    refine lt_pow_mono (pAdd_bits (a := a + ds.length * T + (b + L + ds.length * key.length + key.length)) (fun x hx => lt_pow_mono (h d (by simp) x hx) (by omega)) (fun x hx => lt_pow_mono (p1 x hx) (by omega)) x hx) (by omega)
theorem dsum_snoc (key : PS Int) (d : List Int) : ∀ xs : List (List Int), dsum key (xs ++ [d]) = dsum key xs + key ^ xs.length * pc d
  | [] => by
    have : key ^ 0 = 1 := rfl
    simp only [List.nil_append, dsum, List.length_nil, this]
    grind
  | x :: xs => by
    have ih := dsum_snoc key d xs
    have e : key ^ (xs.length + 1) = key ^ xs.length * key := rfl
    simp only [List.cons_append, dsum, List.length_cons, e, ih]
    grind
theorem dsum_take {key : PS Int} {ds : List (List Int)} {k : Nat} {d : List Int} (h : ds[k]? = some d) : dsum key (ds.take (k + 1)) = dsum key (ds.take k) + key ^ k * pc d := by
  have hk := lt_of_get h
  rw [List.take_succ, h]
  simp only [Option.toList_some]
  rw [dsum_snoc, List.length_take, Nat.min_eq_left (by omega)]
end Tr

/-! TrRet: loops that may end with a return; items exchanged; tables. -/
namespace Tr
open PySem L2
/-- the run goes on so, or ends with such a value -/
def nrIs : Option Out → (Env → Prop) → (Val → Prop) → Prop
  | some (.nx ρ), p, _ => p ρ
  | some (.ct ρ), p, _ => p ρ
  | some (.rt r _), _, q => q r
  | _, _, _ => False
@[simp] theorem nrIs_nx {ρ : Env} {p : Env → Prop} {q : Val → Prop} : nrIs (some (.nx ρ)) p q = p ρ := rfl
@[simp] theorem nrIs_ct {ρ : Env} {p : Env → Prop} {q : Val → Prop} : nrIs (some (.ct ρ)) p q = p ρ := rfl
@[simp] theorem nrIs_rt {ρ : Env} {r : Val} {p : Env → Prop} {q : Val → Prop} : nrIs (some (.rt r ρ)) p q = q r := rfl
section
variable {ρ ρ1 : Env} {g : STg} {b : SS} {src : SI}
theorem for_invR (P : Nat → Env → Prop) (R : Val → Prop) : ∀ (ds : List D) (k0 : Nat) (ρ : Env), P k0 ρ →
    (∀ k d ρ, ds[k]? = some d → P (k0 + k) ρ → nrIs (once g b d ρ) (P (k0 + k + 1)) R) →
    (∃ ρ', forGo g b ds ρ = some (.nx ρ') ∧ P (k0 + ds.length) ρ') ∨ (∃ r ρ', forGo g b ds ρ = some (.rt r ρ') ∧ R r)
  | [], k0, ρ, h0, _ => .inl ⟨ρ, rfl, h0⟩
  | d :: ds, k0, ρ, h0, hs => by
    have q := hs 0 d ρ rfl h0
    unfold once at q
    cases e1 : g (nrm .F d) ρ with
    | none => rw [e1] at q; cases q
    | some ρ1 =>
      rw [e1] at q
      simp only at q
      have go : ∀ ρ2, P (k0 + 1) ρ2 → (∃ ρ', forGo g b ds ρ2 = some (.nx ρ') ∧ P (k0 + (d :: ds).length) ρ') ∨ (∃ r ρ', forGo g b ds ρ2 = some (.rt r ρ') ∧ R r) := fun ρ2 h => by
        rw [List.length_cons, show k0 + (ds.length + 1) = k0 + 1 + ds.length by omega]
        exact for_invR P R ds (k0 + 1) ρ2 h fun k d ρ e p => by
          have q := hs (k + 1) d ρ e (by rw [show k0 + (k + 1) = k0 + 1 + k by omega]; exact p)
          rw [show k0 + (k + 1) = k0 + 1 + k by omega] at q
          exact q
      rw [forGo_cons, e1]
      simp only
      cases e2 : b ρ1 with
      | none => rw [e2] at q; cases q
      | some o =>
        rw [e2] at q
        cases o with
        | nx ρ2 => exact go ρ2 q
        | ct ρ2 => exact go ρ2 q
        | bk ρ2 => cases q
        | rt r ρ2 => exact .inr ⟨r, ρ2, rfl, q⟩
theorem sFor_listR {α : Type} {f : α → D} {xs : List α} (P : Nat → Env → Prop) (R : Val → Prop) (h : src ρ = some (xs.map f, ρ1)) (h0 : P 0 (freeze2 ρ ρ1))
    (hs : ∀ k x ρ, xs[k]? = some x → P k ρ → nrIs (once g b (f x) ρ) (P (k + 1)) R) : (∃ ρ', sFor src g b ρ = some (.nx ρ') ∧ P xs.length ρ') ∨ (∃ r ρ', sFor src g b ρ = some (.rt r ρ') ∧ R r) := by
  have q := for_invR (g := g) (b := b) P R (xs.map f) 0 (freeze2 ρ ρ1) h0 (by
    intro k d ρ hd hp
    rw [List.getElem?_map] at hd
    cases hx : xs[k]? with
    | none => rw [hx] at hd; cases hd
    | some x =>
      rw [hx] at hd
      cases hd
      simpa using hs k x ρ hx (by simpa using hp))
  rw [sFor_ap, h]
  simpa using q
theorem sFor_upR {n : Nat} {lo : Int} (P : Nat → Env → Prop) (R : Val → Prop) (h : src ρ = some (up lo n, ρ1)) (h0 : P 0 (freeze2 ρ ρ1))
    (hs : ∀ k ρ, k < n → P k ρ → nrIs (once g b (.int (lo + k)) ρ) (P (k + 1)) R) : (∃ ρ', sFor src g b ρ = some (.nx ρ') ∧ P n ρ') ∨ (∃ r ρ', sFor src g b ρ = some (.rt r ρ') ∧ R r) := by
  have q := sFor_listR (ρ := ρ) (src := src) (g := g) (b := b) (f := fun k : Nat => D.int (lo + (k : Int))) (xs := List.range n) P R h h0 (by
    intro k x ρ hx hp
    have hk : k < n := by have := lt_of_get hx; simpa using this
    rw [List.getElem?_range hk] at hx
    cases hx
    exact hs k ρ hk hp)
  simpa using q
theorem sFor_up0R {n : Nat} (P : Nat → Env → Prop) (R : Val → Prop) (h : src ρ = some (up 0 n, ρ1)) (h0 : P 0 (freeze2 ρ ρ1))
    (hs : ∀ k ρ, k < n → P k ρ → nrIs (once g b (.int (k : Int)) ρ) (P (k + 1)) R) : (∃ ρ', sFor src g b ρ = some (.nx ρ') ∧ P n ρ') ∨ (∃ r ρ', sFor src g b ρ = some (.rt r ρ') ∧ R r) :=
  sFor_upR P R h h0 fun k ρ hk hp => by rw [Int.zero_add]; exact hs k ρ hk hp
end
@[simp] theorem fz_cons {a : Option Slot} {ρ : Env} : fz (a :: ρ) = fz1 a :: fz ρ := rfl
@[simp] theorem fz_nil : fz [] = [] := rfl
@[simp] theorem fz1_some {s : Slot} : fz1 (some s) = some ⟨.F, false, s.d⟩ := rfl
@[simp] theorem fz1_none : fz1 none = none := rfl
theorem sSwap_dl {α : Type} {h : α → D} {ρ ρ1 ρ2 ρ3 ρ4 : Env} {i : Nat} {f1 f2 g1 g2 : SE} {rows : List α} {a b : Nat} {ra rb : α} {m1 m2 m3 m4 : Mode} (e : ρ[i]? = some (some ⟨.O, false, dl h rows⟩)) (ha : rows[a]? = some ra) (hb : rows[b]? = some rb)
    (h1 : f1 (fz ρ) = some (⟨m1, .int (a : Int)⟩, ρ1)) (h2 : f2 (fz ρ) = some (⟨m2, .int (b : Int)⟩, ρ2)) (h3 : g1 (fz ρ) = some (⟨m3, .int (b : Int)⟩, ρ3)) (h4 : g2 (fz (ρ.set i (some ⟨.O, false, dl h (rows.set b ra)⟩))) = some (⟨m4, .int (a : Int)⟩, ρ4)) :
    sSwap i f1 f2 g1 g2 ρ = some (.nx (ρ.set i (some ⟨.O, false, dl h (swp rows a b ra rb)⟩))) := by
  have la : ixN (rows.map h).length (a : Int) = some a := by rw [List.length_map]; exact ixN_nat (lt_of_get ha)
  have lb : ixN (rows.map h).length (b : Int) = some b := by rw [List.length_map]; exact ixN_nat (lt_of_get hb)
  have xa : (rows.map h)[a]? = some (h ra) := by rw [List.getElem?_map, ha]; rfl
  have xb : (rows.map h)[b]? = some (h rb) := by rw [List.getElem?_map, hb]; rfl
  have es : (rows.map h).set b (h ra) = (rows.set b ra).map h := by rw [List.map_set]
  have ew : swp (rows.map h) a b (h ra) (h rb) = (swp rows a b ra rb).map h := by unfold swp; rw [List.map_set, List.map_set]
  unfold sSwap
  unfold dl at e h4 ⊢
  rw [e]
  simp only [h1, h2, h3, la, lb, xa, xb, es, ew, h4, ↓reduceIte]
/-! tables -/
def mx (rows : List (List Int)) : Nat → Nat → Int := fun i j => nth (rows.getD i []) j
structure Tbl (n : Nat) (rows : List (List Int)) : Prop where
  len : rows.length = n
  row : ∀ r ∈ rows, r.length = n
theorem Tbl.get {n i : Nat} {rows : List (List Int)} (h : Tbl n rows) (hi : i < n) : ∃ r, rows[i]? = some r ∧ r.length = n ∧ ∀ j, mx rows i j = nth r j := by
  have : i < rows.length := by rw [h.len]; exact hi
  have e : rows[i]? = some rows[i] := List.getElem?_eq_getElem this
  exact ⟨rows[i], e, h.row _ (List.mem_of_getElem? e), fun j => by unfold mx; rw [List.getD_eq_getElem?_getD, e]; rfl⟩
theorem mx_put {n i j : Nat} {rows : List (List Int)} {r : List Int} {v : Int} (h : Tbl n rows) (hi : i < n) (hj : j < n) (hr : rows[i]? = some r) : Tbl n (rows.set i (r.set j v)) ∧ ∀ a b, mx (rows.set i (r.set j v)) a b = if a = i ∧ b = j then v else mx rows a b := by
  have il : i < rows.length := by rw [h.len]; exact hi
  have rl : r.length = n := h.row _ (List.mem_of_getElem? hr)
  refine ⟨⟨by rw [List.length_set]; exact h.len, fun x hx => ?_⟩, fun a b => ?_⟩
  · rcases List.mem_or_eq_of_mem_set hx with q | rfl
    · exact h.row x q
    · rw [List.length_set]; exact rl
  · unfold mx
    rw [List.getD_eq_getElem?_getD, List.getD_eq_getElem?_getD]
    by_cases q : a = i
    · subst q
      rw [List.getElem?_set_self il, hr]
      simp only [Option.getD_some, true_and]
      by_cases q2 : b = j
      · subst q2
        rw [if_pos rfl, nth_set (by omega), if_pos rfl]
      · rw [if_neg q2, nth_set (by omega), if_neg (by omega)]
    · rw [List.getElem?_set_ne (Ne.symm q), if_neg (fun z => q z.1)]
theorem idx_mx {n i j : Nat} {rows : List (List Int)} {m p p2 : Mode} (h : Tbl n rows) (hi : i < n) (hj : j < n) : ∃ r, rows[i]? = some r ∧ opIdx [⟨m, ill rows⟩, ⟨p, .int (i : Int)⟩] = some ⟨kidL m, il r⟩ ∧ ∀ m', opIdx [⟨m', il r⟩, ⟨p2, .int (j : Int)⟩] = some ⟨.O, .int (mx rows i j)⟩ := by
  obtain ⟨r, hr, rl, e⟩ := h.get hi
  exact ⟨r, hr, idx_ill hr, fun m' => by rw [e]; exact idx_il (by omega)⟩
theorem mx_swp {n a b : Nat} {rows : List (List Int)} {ra rb : List Int} (h : Tbl n rows) (ha : rows[a]? = some ra) (hb : rows[b]? = some rb) : Tbl n (swp rows a b ra rb) ∧ ∀ i j, mx (swp rows a b ra rb) i j = mx rows (if i = a then b else if i = b then a else i) j := by
  have la := lt_of_get ha
  have lb := lt_of_get hb
  unfold swp
  refine ⟨⟨by rw [List.length_set, List.length_set]; exact h.len, fun x hx => ?_⟩, fun i j => ?_⟩
  · rcases List.mem_or_eq_of_mem_set hx with q | rfl
    · rcases List.mem_or_eq_of_mem_set q with q | rfl
      · exact h.row x q
      · exact h.row _ (List.mem_of_getElem? ha)
    · exact h.row _ (List.mem_of_getElem? hb)
  · unfold mx
    rw [List.getD_eq_getElem?_getD, List.getD_eq_getElem?_getD]
    by_cases q : i = a
    · subst q
      rw [List.getElem?_set_self (by rw [List.length_set]; exact la), if_pos rfl, hb]
    · rw [List.getElem?_set_ne (Ne.symm q), if_neg q]
      by_cases q2 : i = b
      · subst q2
        rw [List.getElem?_set_self lb, if_pos rfl, ha]
      · rw [List.getElem?_set_ne (Ne.symm q2), if_neg q2]
end Tr

set_option exponentiation.threshold 1000
/-! a text changed here and there. -/
namespace Tr
open PySem L2 TL NumText
def sumL (W : List (List Nat)) : Nat := (W.map List.length).sum
def asW (W : List (List Nat)) : Prop := ∀ w ∈ W, asc w = true
theorem sumL_app (U V : List (List Nat)) : sumL (U ++ V) = sumL U + sumL V := by simp [sumL]
theorem sumL_cons (w : List Nat) (W : List (List Nat)) : sumL (w :: W) = w.length + sumL W := by simp [sumL]
theorem sumL_td (W : List (List Nat)) (k : Nat) : sumL (W.take k) + sumL (W.drop k) = sumL W := by rw [← sumL_app, List.take_append_drop]
theorem sumL_mem {W : List (List Nat)} {w : List Nat} : w ∈ W → w.length ≤ sumL W := by
  induction W with
  | nil => intro h; cases h
  | cons x W ih =>
    intro h
    rw [sumL_cons]
    rcases List.mem_cons.mp h with rfl | h
    · omega
    · have := ih h; omega
theorem sumL_set (W : List (List Nat)) (k : Nat) (x : List Nat) : sumL (W.set k x) ≤ sumL W + x.length := by
  induction W generalizing k with
  | nil => simp [sumL]
  | cons w W ih =>
    cases k with
    | zero => rw [List.set_cons_zero, sumL_cons, sumL_cons]; omega
    | succ k => rw [List.set_cons_succ, sumL_cons, sumL_cons]; have := ih k; omega
theorem sumL_erase (W : List (List Nat)) (k : Nat) : sumL (W.eraseIdx k) ≤ sumL W := by
  induction W generalizing k with
  | nil => simp [sumL]
  | cons w W ih =>
    cases k with
    | zero => rw [List.eraseIdx_cons_zero, sumL_cons]; omega
    | succ k => rw [List.eraseIdx_cons_succ, sumL_cons, sumL_cons]; have := ih k; omega
theorem sumL_spl : ∀ (a acc : List Nat), sumL (spl [32] 0 acc a) ≤ acc.length + a.length
  | [], acc => by rw [spl_nil]; simp [sumL]
  | c :: r, acc => by
    by_cases q : pre [32] (c :: r) = true
    · have ih := sumL_spl r []
      rw [spl_hit q]
      show sumL (acc :: spl [32] 0 [] r) ≤ _
      rw [sumL_cons]
      simp at ih ⊢
      omega
    · have ih := sumL_spl r (acc ++ [c])
      rw [spl_miss (by simpa using q)]
      simp at ih ⊢
      omega
theorem joinL_ok {W : List (List Nat)} (h : asW W) : asc (joinL [32] W) = true ∧ (joinL [32] W).length ≤ sumL W + W.length := by
  induction W with
  | nil => exact ⟨by simp [joinL], by simp [joinL]⟩
  | cons w W ih =>
    have ih := ih fun x hx => h x (by simp [hx])
    have hw := h w (by simp)
    cases W with
    | nil => exact ⟨hw, by simp [joinL, sumL]⟩
    | cons q W =>
      rw [joinL]
      refine ⟨?_, ?_⟩
      · rw [asc_app, asc_app, hw, ih.1]; decide
      · have := ih.2
        rw [sumL_cons w]
        simp at this ⊢
        omega
theorem strs_sds : ∀ W : List (List Nat), strs? (W.map fun l => sd l) = some (W.map sx)
  | [] => rfl
  | w :: W => by rw [List.map_cons, strs?, strs_sds W]; rfl
theorem join_ev {W : List (List Nat)} {m p : Mode} (h : asW W) (h1 : sumL W ≤ 40000) (h2 : W.length ≤ 9000) : ∃ t, opJoin [⟨m, sd [32]⟩, ⟨p, dl sd W⟩] = some ⟨.O, sd t⟩ ∧ asc t = true ∧ t.length ≤ 50000 := by
  obtain ⟨q1, q2⟩ := joinL_ok h
  refine ⟨joinL [32] W, ?_, q1, by omega⟩
  have e1 : ((W.map sx).map (·.length)).sum = sumL W := by
    unfold sumL
    rw [List.map_map]
    congr 1
  have e2 : Txt.join (sx [32]) (W.map sx) = sx (joinL [32] W) := by
    refine ext_tl ?_
    rw [join_eq, tl_join, List.map_map]
    have : (W.map (tl ∘ sx)) = W := by
      conv => rhs; rw [← List.map_id W]
      exact List.map_congr_left fun x _ => rfl
    rw [this]
    rfl
  unfold opJoin dl
  simp only [strs_sds, Option.bind_some]
  rw [e1, e2, if_pos (ok_of (by simp; omega))]
theorem flats_sds : ∀ W : List (List Nat), D.flats (W.map fun l => sd l) = true
  | [] => rfl
  | w :: W => by rw [List.map_cons, D.flats, flats_sds W]; rfl
/-- the slots while a text is changed -/
def chE (t : List Nat) (b : D) (y2 y3 y4 y5 : Option Slot) (W : List (List Nat)) (k : Nat) : Env :=
  [some ⟨.O, false, sd t⟩, some ⟨.O, false, b⟩, y2, y3, y4, y5, some ⟨.O, false, dl sd W⟩, some ⟨.O, false, .int (k : Int)⟩]
section
variable {t : List Nat} {b : D} {y2 y3 y4 y5 : Option Slot} {W : List (List Nat)} {k : Nat} {w : List Nat}
theorem ch_ins (hk : W[k]? = some w) (hl : W.length ≤ 9000) : sMeth hIns 6 (sCons (sVar 7) (sCons (sApp2 opIdx (sVar 6) (sVar 7)) sNil)) (chE t b y2 y3 y4 y5 W k) = some (.nx (chE t b y2 y3 y4 y5 (W.take k ++ [w] ++ W.drop k) k)) := by
  have hlt := lt_of_get hk
  have i1 := fun m p => idx_w (ws := W) (m := m) (p := p) (k := k) (w := w) hk
  have ea : (sCons (sVar 7) (sCons (sApp2 opIdx (sVar 6) (sVar 7)) sNil)) (chE t b y2 y3 y4 y5 W k) = some ([⟨.O, .int (k : Int)⟩, ⟨.O, sd w⟩], chE t b y2 y3 y4 y5 W k) := by
    unfold chE
    simp [i1]
  have eh : hIns (W.map fun l => sd l) [.int (k : Int), sd w] = some ((W.take k ++ [w] ++ W.drop k).map fun l => sd l) := by
    simp only [hIns]
    rw [if_pos (ok_of ⟨by omega, by omega⟩), Int.toNat_natCast, List.map_append, List.map_append, List.map_take, List.map_drop]
    rfl
  have eo : ok (D.flats (W.map fun l => sd l) = true ∧ D.flats ((W.take k ++ [w] ++ W.drop k).map fun l => sd l) = true ∧ (W.map fun l => sd l).length < sizeLine) = true := ok_of ⟨flats_sds _, flats_sds _, by have := sizeLine_big; simp; omega⟩
  unfold sMeth
  rw [ea]
  simp only [restore_self]
  unfold chE dl at *
  simp only [isLst, List.getElem?_cons_succ, List.getElem?_cons_zero, if_true]
  simp only [allO, flatL, ds, List.map_cons, List.map_nil, eh, eo]
  rfl
theorem ch_pop (hk : k < W.length) (hl : W.length ≤ 9000) : sMeth hPopAt 6 (sCons (sVar 7) sNil) (chE t b y2 y3 y4 y5 W k) = some (.nx (chE t b y2 y3 y4 y5 (W.eraseIdx k) k)) := by
  have ea : (sCons (sVar 7) sNil) (chE t b y2 y3 y4 y5 W k) = some ([⟨.O, .int (k : Int)⟩], chE t b y2 y3 y4 y5 W k) := by
    unfold chE
    simp
  have em : ∀ (W : List (List Nat)) (k : Nat), (W.map fun l => sd l).eraseIdx k = (W.eraseIdx k).map fun l => sd l := fun W => by
    induction W with
    | nil => intro k; rfl
    | cons x W ih =>
      intro k
      cases k with
      | zero => rfl
      | succ k => rw [List.map_cons, List.eraseIdx_cons_succ, ih, List.eraseIdx_cons_succ, List.map_cons]
  have eh : hPopAt (W.map fun l => sd l) [.int (k : Int)] = some ((W.eraseIdx k).map fun l => sd l) := by
    show (if 0 ≤ (k : Int) ∧ (k : Int).toNat < (W.map fun l => sd l).length then some ((W.map fun l => sd l).eraseIdx (k : Int).toNat) else none) = _
    rw [if_pos (by rw [List.length_map]; omega), ← em]
    rfl
  have eo : ok (D.flats (W.map fun l => sd l) = true ∧ D.flats ((W.eraseIdx k).map fun l => sd l) = true ∧ (W.map fun l => sd l).length < sizeLine) = true := ok_of ⟨flats_sds _, flats_sds _, by have := sizeLine_big; simp; omega⟩
  unfold sMeth
  rw [ea]
  simp only [restore_self]
  unfold chE dl at *
  simp only [isLst, List.getElem?_cons_succ, List.getElem?_cons_zero, if_true]
  simp only [allO, flatL, ds, List.map_cons, List.map_nil, eh, eo]
  rfl
theorem ch_rev (hl : W.length ≤ 9000) : sMeth hRev 6 sNil (chE t b y2 y3 y4 y5 W k) = some (.nx (chE t b y2 y3 y4 y5 W.reverse k)) := by
  have ea : sNil (chE t b y2 y3 y4 y5 W k) = some ([], chE t b y2 y3 y4 y5 W k) := rfl
  have eh : hRev (W.map fun l => sd l) [] = some (W.reverse.map fun l => sd l) := by
    unfold hRev
    rw [List.map_reverse]
  have eo : ok (D.flats (W.map fun l => sd l) = true ∧ D.flats (W.reverse.map fun l => sd l) = true ∧ (W.map fun l => sd l).length < sizeLine) = true := ok_of ⟨flats_sds _, flats_sds _, by have := sizeLine_big; simp; omega⟩
  unfold sMeth
  rw [ea]
  simp only [restore_self]
  unfold chE dl at *
  simp only [isLst, List.getElem?_cons_succ, List.getElem?_cons_zero, if_true]
  simp only [allO, flatL, ds, List.map_cons, List.map_nil, eh, eo]
  rfl
theorem ch_swap (hk : W[k]? = some w) {w0 : List Nat} (h0 : W[0]? = some w0) : sSwap 6 (sCon (.int 0)) (sVar 7) (sVar 7) (sCon (.int 0)) (chE t b y2 y3 y4 y5 W k) = some (.nx (chE t b y2 y3 y4 y5 ((W.set k w0).set 0 w) k)) := by
  rw [sSwap_dl (h := fun l => sd l) (rows := W) (a := 0) (b := k) (by rfl) h0 hk rfl rfl rfl rfl]
  rfl
end
noncomputable def chT6 : SS := (sSeq (sSet 6 (sApp2 opSplit (sVar 0) (sCon (.str " "))))
    (sSeq (sSet 7 (sCallIO 1 m_u_law_take (sCons (sApp opLen (sCons (sVar 6) sNil)) sNil)))
    (sSeq (sIf (sTest (sApp2 opEq (sVar 5) (sCon (.int 3)))) (sMeth hIns 6 (sCons (sVar 7) (sCons (sApp2 opIdx (sVar 6) (sVar 7)) sNil))) (sIf (sTest (sApp2 opEq (sVar 5) (sCon (.int 4)))) (sMeth hPopAt 6 (sCons (sVar 7) sNil)) (sIf (sTest (sApp2 opEq (sVar 5) (sCon (.int 5)))) (sAsg (sGSub 6 (sVar 7)) (sApp2 opIdx (sApp opLst (sCons (sCon (.str "x")) (sCons (sCon (.str "0")) (sCons (sCon (.str "+")) (sCons (sCon (.str "-")) (sCons (sCon (.str "x^2")) (sCons (sCon (.str "1*x")) (sCons (sCon (.str "0*x")) (sCons (sCon (.str "x^1")) (sCons (sCon (.str "3")) (sCons (sCon (.str "x^13")) (sCons (sCon (.str "x^0")) (sCons (sCon (.str "")) sNil))))))))))))) (sCallIO 1 m_u_law_take (sCons (sCon (.int 12)) sNil)))) (sIf (sTest (sApp2 opEq (sVar 5) (sCon (.int 6)))) (sMeth hRev 6 sNil) (sSwap 6 (sCon (.int 0)) (sVar 7) (sVar 7) (sCon (.int 0)))))))
    (sRet (sApp2 opJoin (sCon (.str " ")) (sVar 6))))))
noncomputable def chT4 : SS := (sSeq (sSet 4 (sCallIO 1 m_u_law_take (sCons (sApp opLen (sCons (sVar 0) sNil)) sNil)))
    (sSeq (sSet 5 (sCallIO 1 m_u_law_take (sCons (sCon (.int 8)) sNil)))
    (sSeq (sIf (sTest (sApp2 opLt (sVar 5) (sCon (.int 3)))) (sRet (sApp2 opIdx (sApp opLst (sCons (sApp2 opAdd (sApp2 opAdd (sCutS (sVar 0) sONone (sOSome (sVar 4))) (sVar 3)) (sCutS (sVar 0) (sOSome (sApp2 opAdd (sVar 4) (sCon (.int 1)))) sONone)) (sCons (sApp2 opAdd (sCutS (sVar 0) sONone (sOSome (sVar 4))) (sCutS (sVar 0) (sOSome (sApp2 opAdd (sVar 4) (sCon (.int 1)))) sONone)) (sCons (sApp2 opAdd (sApp2 opAdd (sCutS (sVar 0) sONone (sOSome (sVar 4))) (sVar 3)) (sCutS (sVar 0) (sOSome (sVar 4)) sONone)) sNil)))) (sVar 5))) sSkip)
    chT6)))
theorem changed_eq : b_u_law_changed = (sSeq (sSet 2 (sCon (.str " !\"#$&'()*+,-./0123456789:;<=>?@ABCDEFGHIJKLMNOPQRSTUVWXYZ[\\]^_`abcdefghijklmnopqrstuvwxyz{|}~")))
    (sSeq (sSet 3 (sApp2 opIdx (sVar 2) (sCallIO 1 m_u_law_take (sCons (sApp opLen (sCons (sVar 2) sNil)) sNil))))
    (sSeq (sIf (sTest (sApp2 opGt (sCallIO 1 m_u_law_take (sCons (sCon (.int 4)) sNil)) (sCon (.int 0)))) (sSet 3 (sApp2 opIdx (sCon (.str " +-*^x0123")) (sCallIO 1 m_u_law_take (sCons (sCon (.int 10)) sNil)))) sSkip)
    chT4))) := rfl
def S94 : List Nat := ((List.range 95).map (· + 32)).filter (· != 37)
theorem k_S94 : Str.ofString " !\"#$&'()*+,-./0123456789:;<=>?@ABCDEFGHIJKLMNOPQRSTUVWXYZ[\\]^_`abcdefghijklmnopqrstuvwxyz{|}~" = sx S94 := by decide +kernel
theorem S94_len : S94.length = 94 := by decide +kernel
theorem S94_asc : asc S94 = true := by decide +kernel
def S10 : List Nat := [32, 43, 45, 42, 94, 120, 48, 49, 50, 51]
theorem k_S10 : Str.ofString " +-*^x0123" = sx S10 := by decide +kernel
def W12 : List (List Nat) := [[120], [48], [43], [45], [120, 94, 50], [49, 42, 120], [48, 42, 120], [120, 94, 49], [51], [120, 94, 49, 51], [120, 94, 48], []]
theorem k_12 : [D.str "x", D.str "0", D.str "+", D.str "-", D.str "x^2", D.str "1*x", D.str "0*x", D.str "x^1", D.str "3", D.str "x^13", D.str "x^0", D.str ""] = W12.map fun l => sd l := by
  have e : ∀ s : Str, ∀ l : List Nat, s = sx l → D.str s = sd l := fun s l h => by rw [h]
  have q : ∀ (a b : List D) (x y : D), x = y → a = b → x :: a = y :: b := fun a b x y h1 h2 => by rw [h1, h2]
  unfold W12
  simp only [List.map_cons, List.map_nil]
  repeat (refine q _ _ _ _ (e _ _ (by decide +kernel)) ?_)
  rfl
theorem pick_nat {n : Nat} {r : Int} (h0 : 0 ≤ r) (h : r < n) : ∃ k : Nat, r = (k : Int) ∧ k < n := ⟨r.toNat, by omega, by omega⟩
theorem asc_get {l : List Nat} {k c : Nat} (h : asc l = true) (hk : l[k]? = some c) : asc [c] = true := by
  have := List.all_eq_true.mp h c (List.mem_of_getElem? hk)
  simpa [asc] using this
theorem ev_T6 {t : List Nat} (h : asc t = true) (hl : t.length ≤ 7000) {b : D} (hb : Bag b) {y2 y3 y4 : Option Slot} {way : Int} (w3 : 3 ≤ way) (w8 : way < 8) :
    ∃ t' b' ρ', chT6 [some ⟨.O, false, sd t⟩, some ⟨.O, false, b⟩, y2, y3, y4, some ⟨.O, false, .int way⟩, none, none] = some (.rt ⟨.O, sd t'⟩ ρ') ∧ ρ'[1]? = some (some ⟨.O, false, b'⟩) ∧ asc t' = true ∧ t'.length ≤ 50000 ∧ Bag b' := by
  obtain ⟨w1, w2, w3'⟩ := spl_ok t [] asc_nil h
  have ws := sumL_spl t []
  simp only [List.length_nil, Nat.zero_add] at ws
  have os := fun m p => opSplit_sx (m := m) (p := p) (a := t) (by omega)
  generalize spl [32] 0 [] t = W at *
  have aW : asW W := fun w hw => (w1 w hw).1
  have Wl : 1 ≤ W.length := by
    cases W with
    | nil => exact absurd rfl w3'
    | cons x W => simp
  have lz : ok (W.length ≤ sizeLine) = true := ok_of (sizeN (by omega : W.length ≤ 1000000))
  obtain ⟨r, b1, e1, r0, r1, hb1⟩ := ev_take hb (n := (W.length : Nat)) (by omega) (by omega)
  obtain ⟨k, rfl, hk⟩ := pick_nat r0 r1
  obtain ⟨w, hw⟩ : ∃ w, W[k]? = some w := ⟨W[k], by simp [hk]⟩
  obtain ⟨v, hv⟩ : ∃ v, W[0]? = some v := ⟨W[0], by simp⟩
  have lw := sumL_mem (List.mem_of_getElem? hw)
  have lv := sumL_mem (List.mem_of_getElem? hv)
  have tw := sumL_td W k
  -- the words behind, joined
  have fin : ∀ (V : List (List Nat)) (b' : D), asW V → sumL V ≤ 40000 → V.length ≤ 9000 → Bag b' → ∃ t' ρ', sRet (sApp2 opJoin (sCon (.str " ")) (sVar 6)) (chE t b' y2 y3 y4 (some ⟨.O, false, .int way⟩) V k) = some (.rt ⟨.O, sd t'⟩ ρ') ∧ ρ'[1]? = some (some ⟨.O, false, b'⟩) ∧ asc t' = true ∧ t'.length ≤ 50000 := fun V b' h1 h2 h3 _ => by
    obtain ⟨t', j1, j2, j3⟩ := join_ev (m := .O) (p := .F) h1 h2 h3
    refine ⟨t', chE t b' y2 y3 y4 (some ⟨.O, false, .int way⟩) V k, ?_, rfl, j2, j3⟩
    unfold chE
    simp [k_blank, j1]
  have hd : ∀ T : SS, (sSeq (sSet 6 (sApp2 opSplit (sVar 0) (sCon (.str " ")))) (sSeq (sSet 7 (sCallIO 1 m_u_law_take (sCons (sApp opLen (sCons (sVar 6) sNil)) sNil))) T)) [some ⟨.O, false, sd t⟩, some ⟨.O, false, b⟩, y2, y3, y4, some ⟨.O, false, .int way⟩, none, none] = T (chE t b1 y2 y3 y4 (some ⟨.O, false, .int way⟩) W k) := fun T => by
    unfold chE
    simp [k_blank, os, lz, e1]
  unfold chT6
  rw [hd]
  rcases (by omega : way = 3 ∨ way = 4 ∨ way = 5 ∨ way = 6 ∨ way = 7) with rfl | rfl | rfl | rfl | rfl
  · obtain ⟨t', ρ', f1, f2, f3, f4⟩ := fin (W.take k ++ [w] ++ W.drop k) b1 (fun x hx => by
      simp only [List.mem_append, List.mem_singleton] at hx
      rcases hx with (hx | rfl) | hx
      · exact aW x (List.mem_of_mem_take hx)
      · exact aW x (List.mem_of_getElem? hw)
      · exact aW x (List.mem_of_mem_drop hx)) (by rw [sumL_app, sumL_app, sumL_cons]; simp only [sumL, List.map_nil, List.sum_nil] at *; omega) (by simp; omega) hb1
    refine ⟨t', b1, ρ', ?_, f2, f3, f4, hb1⟩
    have m := ch_ins (t := t) (b := b1) (y2 := y2) (y3 := y3) (y4 := y4) (y5 := some ⟨.O, false, .int 3⟩) hw (by omega)
    have t1 : ∀ A B : SS, (sIf (sTest (sApp2 opEq (sVar 5) (sCon (.int 3)))) A B) (chE t b1 y2 y3 y4 (some ⟨.O, false, .int 3⟩) W k) = A (chE t b1 y2 y3 y4 (some ⟨.O, false, .int 3⟩) W k) := fun A B => by unfold chE; simp
    rw [sSeq_ap, t1, m]
    exact f1
  · obtain ⟨t', ρ', f1, f2, f3, f4⟩ := fin (W.eraseIdx k) b1 (fun x hx => aW x (List.mem_of_mem_eraseIdx hx)) (by have := sumL_erase W k; omega) (by have := List.length_eraseIdx_le W k; omega) hb1
    refine ⟨t', b1, ρ', ?_, f2, f3, f4, hb1⟩
    have m := ch_pop (t := t) (b := b1) (y2 := y2) (y3 := y3) (y4 := y4) (y5 := some ⟨.O, false, .int 4⟩) hk (by omega)
    have t1 : ∀ A B C : SS, (sIf (sTest (sApp2 opEq (sVar 5) (sCon (.int 3)))) A (sIf (sTest (sApp2 opEq (sVar 5) (sCon (.int 4)))) B C)) (chE t b1 y2 y3 y4 (some ⟨.O, false, .int 4⟩) W k) = B (chE t b1 y2 y3 y4 (some ⟨.O, false, .int 4⟩) W k) := fun A B C => by unfold chE; simp
    rw [sSeq_ap, t1, m]
    exact f1
  · obtain ⟨s, b2, e2, s0, s1, hb2⟩ := ev_take hb1 (n := 12) (by decide) (by decide)
    obtain ⟨j, rfl, hj⟩ := pick_nat (n := 12) s0 s1
    obtain ⟨u, hu⟩ : ∃ u, W12[j]? = some u := ⟨W12[j]'hj, List.getElem?_eq_getElem (show j < W12.length from hj)⟩
    have mu := List.mem_of_getElem? hu
    have all12 : ∀ u ∈ W12, asc u = true ∧ u.length ≤ 4 := by decide +kernel
    obtain ⟨au, lu⟩ := all12 u mu
    obtain ⟨t', ρ', f1, f2, f3, f4⟩ := fin (W.set k u) b2 (fun x hx => by
      rcases List.mem_or_eq_of_mem_set hx with hx | rfl
      · exact aW x hx
      · exact au) (by have := sumL_set W k u; omega) (by simp; omega) hb2
    refine ⟨t', b2, ρ', ?_, f2, f3, f4, hb2⟩
    have i2 := fun m p => idx_w (ws := W12) (m := m) (p := p) (k := j) (w := u) hu
    have p1 := putS_O (lk := false) (h := fun l => sd l) (xs := W) (x := u) hk
    have t1 : ∀ A B C D' : SS, (sIf (sTest (sApp2 opEq (sVar 5) (sCon (.int 3)))) A (sIf (sTest (sApp2 opEq (sVar 5) (sCon (.int 4)))) B (sIf (sTest (sApp2 opEq (sVar 5) (sCon (.int 5)))) C D'))) (chE t b1 y2 y3 y4 (some ⟨.O, false, .int 5⟩) W k) = C (chE t b1 y2 y3 y4 (some ⟨.O, false, .int 5⟩) W k) := fun A B C D' => by unfold chE; simp
    rw [sSeq_ap, t1]
    have ol : ∀ ρ : Env, (sApp opLst (sCons (sCon (.str "x")) (sCons (sCon (.str "0")) (sCons (sCon (.str "+")) (sCons (sCon (.str "-")) (sCons (sCon (.str "x^2")) (sCons (sCon (.str "1*x")) (sCons (sCon (.str "0*x")) (sCons (sCon (.str "x^1")) (sCons (sCon (.str "3")) (sCons (sCon (.str "x^13")) (sCons (sCon (.str "x^0")) (sCons (sCon (.str "")) sNil))))))))))))) ρ = some (⟨.O, dl sd W12⟩, ρ) := fun ρ => by
      simp
      exact congrArg D.lst k_12
    have st : (sAsg (sGSub 6 (sVar 7)) (sApp2 opIdx (sApp opLst (sCons (sCon (.str "x")) (sCons (sCon (.str "0")) (sCons (sCon (.str "+")) (sCons (sCon (.str "-")) (sCons (sCon (.str "x^2")) (sCons (sCon (.str "1*x")) (sCons (sCon (.str "0*x")) (sCons (sCon (.str "x^1")) (sCons (sCon (.str "3")) (sCons (sCon (.str "x^13")) (sCons (sCon (.str "x^0")) (sCons (sCon (.str "")) sNil))))))))))))) (sCallIO 1 m_u_law_take (sCons (sCon (.int 12)) sNil)))) (chE t b1 y2 y3 y4 (some ⟨.O, false, .int 5⟩) W k) = some (.nx (chE t b2 y2 y3 y4 (some ⟨.O, false, .int 5⟩) (W.set k u) k)) := by
      unfold chE
      generalize hL : (sApp opLst (sCons (sCon (.str "x")) _)) = L at ol ⊢
      simp [ol, e2, i2, p1]
    rw [st]
    exact f1
  · obtain ⟨t', ρ', f1, f2, f3, f4⟩ := fin W.reverse b1 (fun x hx => aW x (List.mem_reverse.mp hx)) (by unfold sumL at *; simp; omega) (by simp; omega) hb1
    refine ⟨t', b1, ρ', ?_, f2, f3, f4, hb1⟩
    have m := ch_rev (t := t) (b := b1) (y2 := y2) (y3 := y3) (y4 := y4) (y5 := some ⟨.O, false, .int 6⟩) (W := W) (k := k) (by omega)
    have t1 : ∀ A B C D' E' : SS, (sIf (sTest (sApp2 opEq (sVar 5) (sCon (.int 3)))) A (sIf (sTest (sApp2 opEq (sVar 5) (sCon (.int 4)))) B (sIf (sTest (sApp2 opEq (sVar 5) (sCon (.int 5)))) C (sIf (sTest (sApp2 opEq (sVar 5) (sCon (.int 6)))) D' E')))) (chE t b1 y2 y3 y4 (some ⟨.O, false, .int 6⟩) W k) = D' (chE t b1 y2 y3 y4 (some ⟨.O, false, .int 6⟩) W k) := fun A B C D' E' => by unfold chE; simp
    rw [sSeq_ap, t1, m]
    exact f1
  · obtain ⟨t', ρ', f1, f2, f3, f4⟩ := fin ((W.set k v).set 0 w) b1 (fun x hx => by
      rcases List.mem_or_eq_of_mem_set hx with hx | rfl
      · rcases List.mem_or_eq_of_mem_set hx with hx | rfl
        · exact aW x hx
        · exact aW _ (List.mem_of_getElem? hv)
      · exact aW _ (List.mem_of_getElem? hw)) (by have h1 := sumL_set W k v; have h2 := sumL_set (W.set k v) 0 w; omega) (by simp; omega) hb1
    refine ⟨t', b1, ρ', ?_, f2, f3, f4, hb1⟩
    have m := ch_swap (t := t) (b := b1) (y2 := y2) (y3 := y3) (y4 := y4) (y5 := some ⟨.O, false, .int 7⟩) hw hv
    have t1 : ∀ A B C D' E' : SS, (sIf (sTest (sApp2 opEq (sVar 5) (sCon (.int 3)))) A (sIf (sTest (sApp2 opEq (sVar 5) (sCon (.int 4)))) B (sIf (sTest (sApp2 opEq (sVar 5) (sCon (.int 5)))) C (sIf (sTest (sApp2 opEq (sVar 5) (sCon (.int 6)))) D' E')))) (chE t b1 y2 y3 y4 (some ⟨.O, false, .int 7⟩) W k) = E' (chE t b1 y2 y3 y4 (some ⟨.O, false, .int 7⟩) W k) := fun A B C D' E' => by unfold chE; simp
    rw [sSeq_ap, t1, m]
    exact f1
theorem ev_T4 {t : List Nat} (h : asc t = true) (h1 : 1 ≤ t.length) (hl : t.length ≤ 7000) {b : D} (hb : Bag b) {y2 : Option Slot} {c : Nat} (hc : asc [c] = true) :
    ∃ t' b' ρ', chT4 [some ⟨.O, false, sd t⟩, some ⟨.O, false, b⟩, y2, some ⟨.O, false, sd [c]⟩, none, none, none, none] = some (.rt ⟨.O, sd t'⟩ ρ') ∧ ρ'[1]? = some (some ⟨.O, false, b'⟩) ∧ asc t' = true ∧ t'.length ≤ 50000 ∧ Bag b' := by
  have lz : ok (t.length ≤ sizeLine) = true := ok_of (sizeN (by omega : t.length ≤ 1000000))
  obtain ⟨r, b1, e1, r0, r1, hb1⟩ := ev_take hb (n := (t.length : Nat)) (by omega) (by omega)
  obtain ⟨k, hk0, hk⟩ := pick_nat r0 r1
  obtain ⟨way, b2, e2, w0, w8, hb2⟩ := ev_take hb1 (n := 8) (by decide) (by decide)
  have hd : ∀ T : SS, (sSeq (sSet 4 (sCallIO 1 m_u_law_take (sCons (sApp opLen (sCons (sVar 0) sNil)) sNil))) (sSeq (sSet 5 (sCallIO 1 m_u_law_take (sCons (sCon (.int 8)) sNil))) T)) [some ⟨.O, false, sd t⟩, some ⟨.O, false, b⟩, y2, some ⟨.O, false, sd [c]⟩, none, none, none, none] = T [some ⟨.O, false, sd t⟩, some ⟨.O, false, b2⟩, y2, some ⟨.O, false, sd [c]⟩, some ⟨.O, false, .int r⟩, some ⟨.O, false, .int way⟩, none, none] := fun T => by
    simp [lz, e1, e2]
  unfold chT4
  rw [hd]
  by_cases q : way < 3
  · have ct : L2.cutS (sx t) none (some r) = sx (t.take k) := by rw [hk0]; exact cutS_to k
    have cf : L2.cutS (sx t) (some r) none = sx (t.drop k) := by rw [hk0]; exact cutS_from k
    have cf1 : L2.cutS (sx t) (some (r + 1)) none = sx (t.drop (k + 1)) := by rw [hk0]; exact cutS_from (k + 1)
    have l1 : (t.take k).length ≤ 7000 := by rw [List.length_take]; omega
    have l2 : (t.drop k).length ≤ 7000 := by rw [List.length_drop]; omega
    have l3 : (t.drop (k + 1)).length ≤ 7000 := by rw [List.length_drop]; omega
    have a1 := asc_take h k
    have a2 := asc_drop h k
    have a3 := asc_drop h (k + 1)
    have ad : ∀ (m p : Mode) (a b : List Nat), a.length ≤ 100000 → b.length ≤ 100000 → opAdd [⟨m, sd a⟩, ⟨p, sd b⟩] = some ⟨.O, sd (a ++ b)⟩ := fun m p a b h1 h2 => by
      rw [opAdd_ss, if_pos (ok_of (by have := sizeLine_big; omega))]
    generalize t.take k = p1 at *
    generalize t.drop k = p2 at *
    generalize t.drop (k + 1) = p3 at *
    have d1 := fun m p => ad m p p1 [c] (by omega) (by simp)
    have d2 := fun m p => ad m p (p1 ++ [c]) p3 (by simp; omega) (by omega)
    have d3 := fun m p => ad m p p1 p3 (by omega) (by omega)
    have d4 := fun m p => ad m p (p1 ++ [c]) p2 (by simp; omega) (by omega)
    have pk : ∀ (x y z : List Nat) (m p : Mode), opIdx [⟨m, .lst [sd x, sd y, sd z]⟩, ⟨p, .int way⟩] = some ⟨.O, sd (if way = 0 then x else if way = 1 then y else z)⟩ := fun x y z m p => by
      rcases (by omega : way = 0 ∨ way = 1 ∨ way = 2) with rfl | rfl | rfl <;> simp [opIdx, atI, ixN]
    refine ⟨if way = 0 then p1 ++ [c] ++ p3 else if way = 1 then p1 ++ p3 else p1 ++ [c] ++ p2, b2, [some ⟨.O, false, sd t⟩, some ⟨.O, false, b2⟩, y2, some ⟨.O, false, sd [c]⟩, some ⟨.O, false, .int r⟩, some ⟨.O, false, .int way⟩, none, none], ?_, rfl, ?_, ?_, hb2⟩
    · simp [-opAdd_ss, -List.append_assoc, lz, q, ct, cf, cf1, d1, d2, d3, d4, pk]
    · split
      · rw [asc_app, asc_app, a1, hc, a3]; rfl
      · split
        · rw [asc_app, a1, a3]; rfl
        · rw [asc_app, asc_app, a1, hc, a2]; rfl
    · split
      · simp; omega
      · split <;> (simp; omega)
  · obtain ⟨t', b', ρ', f⟩ := ev_T6 h hl hb2 (y2 := y2) (y3 := some ⟨.O, false, sd [c]⟩) (y4 := some ⟨.O, false, .int r⟩) (way := way) (by omega) w8
    refine ⟨t', b', ρ', ?_, f.2⟩
    have t1 : ∀ A : SS, (sIf (sTest (sApp2 opLt (sVar 5) (sCon (.int 3)))) A sSkip) [some ⟨.O, false, sd t⟩, some ⟨.O, false, b2⟩, y2, some ⟨.O, false, sd [c]⟩, some ⟨.O, false, .int r⟩, some ⟨.O, false, .int way⟩, none, none] = some (.nx [some ⟨.O, false, sd t⟩, some ⟨.O, false, b2⟩, y2, some ⟨.O, false, sd [c]⟩, some ⟨.O, false, .int r⟩, some ⟨.O, false, .int way⟩, none, none]) := fun A => by simp [q]
    rw [sSeq_ap, t1]
    exact f.1
theorem ev_changed {t : List Nat} (h : asc t = true) (h1 : 1 ≤ t.length) (hl : t.length ≤ 7000) {b : D} (hb : Bag b) : ∃ t' b', m_u_law_changed [sd t, b] = some (⟨.O, sd t'⟩, b') ∧ asc t' = true ∧ t'.length ≤ 50000 ∧ Bag b' := by
  obtain ⟨r, b1, e1, r0, r1, hb1⟩ := ev_take hb (n := 94) (by decide) (by decide)
  obtain ⟨k, rfl, hk⟩ := pick_nat (n := 94) r0 r1
  obtain ⟨c, hc⟩ : ∃ c, S94[k]? = some c := ⟨S94[k]'(by rw [S94_len]; exact hk), List.getElem?_eq_getElem _⟩
  have i1 := fun m p => idx_sd (m := m) (p := p) hc (by rw [S94_len]; decide)
  obtain ⟨s, b2, e2, s0, s1, hb2⟩ := ev_take hb1 (n := 4) (by decide) (by decide)
  have lz : ok (S94.length ≤ sizeLine) = true := ok_of (sizeN (by rw [S94_len]; decide : S94.length ≤ 1000000))
  have sl := S94_len
  simp only [m_u_law_changed, fnSemIO2, changed_eq, k_S94, startIO2]
  by_cases q : 0 < s
  · obtain ⟨u, b3, e3, u0, u1, hb3⟩ := ev_take hb2 (n := 10) (by decide) (by decide)
    obtain ⟨j, rfl, hj⟩ := pick_nat (n := 10) u0 u1
    obtain ⟨c2, hc2⟩ : ∃ c2, S10[j]? = some c2 := ⟨S10[j]'hj, List.getElem?_eq_getElem (show j < S10.length from hj)⟩
    have i2 := fun m p => idx_sd (m := m) (p := p) hc2 (by decide)
    obtain ⟨t', b', ρ', f1, f2, f3⟩ := ev_T4 h h1 hl hb3 (y2 := some ⟨.O, false, sd S94⟩) (asc_get (by decide : asc S10 = true) hc2)
    refine ⟨t', b', ?_, f3⟩
    simp [lz, sl, e1, i1, e2, q, k_S10, e3, i2, f1, own1, f2]
  · obtain ⟨t', b', ρ', f1, f2, f3⟩ := ev_T4 h h1 hl hb2 (y2 := some ⟨.O, false, sd S94⟩) (asc_get S94_asc hc)
    refine ⟨t', b', ?_, f3⟩
    simp [lz, sl, e1, i1, e2, q, f1, own1, f2]
end Tr

namespace Tr
open PySem L2 TL NumText
noncomputable def X1 : SE := (sApp opLst (sCons (sCon .non) (sCons (sCon (.int 5)) (sCons (sCon (.bl true)) (sCons (sApp opLst sNil) (sCons (sApp opLst (sCons (sCon (.str "x")) sNil)) (sCons (sCon (.str "")) (sCons (sCon (.str " ")) (sCons (sCon (.str "x ")) (sCons (sCon (.str " x")) (sCons (sCon (.str "x + ")) (sCons (sCon (.str "+ x")) (sCons (sCon (.str "+x")) (sCons (sCon (.str "--x")) (sCons (sCon (.str "- x")) (sCons (sCon (.str "-0")) (sCons (sCon (.str "00")) (sCons (sCon (.str "01")) (sCons (sCon (.str "1*x")) sNil)))))))))))))))))))
noncomputable def Y1 : List D := [.non, .int 5, .bl true, .lst [], .lst [.str "x"], .str "", .str " ", .str "x ", .str " x", .str "x + ", .str "+ x", .str "+x", .str "--x", .str "- x", .str "-0", .str "00", .str "01", .str "1*x"]
noncomputable def X2 : SE := (sApp opLst (sCons (sCon (.str "x^1")) (sCons (sCon (.str "x^0")) (sCons (sCon (.str "x^01")) (sCons (sCon (.str "x^13")) (sCons (sCon (.str "0*x")) (sCons (sCon (.str "x + x")) (sCons (sCon (.str "1 + x")) (sCons (sCon (.str "x - 0")) (sCons (sCon (.str "x + -1")) (sCons (sCon (.str "x  + 1")) (sCons (sCon (.str "X")) (sCons (sCon (.str "y")) (sCons (sCon (.str "2x")) sNil))))))))))))))
noncomputable def Y2 : List D := [.str "x^1", .str "x^0", .str "x^01", .str "x^13", .str "0*x", .str "x + x", .str "1 + x", .str "x - 0", .str "x + -1", .str "x  + 1", .str "X", .str "y", .str "2x"]
noncomputable def X3 : SE := (sApp opLst (sCons (sCon (.str "x*2")) (sCons (sCon (.str "2*3")) (sCons (sCon (.str "x^")) (sCons (sCon (.str "x^-1")) (sCons (sCon (.str "x*x")) (sCons (sApp2 opMulS (sCon (.str "1")) (sCon (.int 61))) (sCons (sApp2 opAdd (sCon (.str "x + ")) (sApp2 opMulS (sCon (.str "9")) (sCon (.int 61)))) (sCons (sCon (.str "1.0")) (sCons (sCon (.str "1/2")) (sCons (sCon (.str "x
")) (sCons (sCon (.str "x^2 + x^2")) sNil))))))))))))
noncomputable def Y3 : List D := [.str "x*2", .str "2*3", .str "x^", .str "x^-1", .str "x*x", .str (repS "1" 61), .str (("x + " : Str) ++ repS "9" 61), .str "1.0", .str "1/2", .str "x
", .str "x^2 + x^2"]
theorem law_eq : b_law = (sSeq lp_law_1
    (sSeq (sSet 4 X1)
    (sSeq (sSet 4 (sApp2 opAdd (sVar 4) X2))
    (sSeq (sSet 4 (sApp2 opAdd (sVar 4) X3))
    (sRet (sApp2 opEq lc_law_1 (sApp opLst sNil))))))) := rfl
theorem told_bad {s : Str} {l : List Nat} (e : s = sx l) (h : asc l = true) (hl : l.length ≤ 50000) (hr : rdPoly l = none) : m_u_law_told [.str s] = some ⟨.O, .non⟩ := by
  rw [e, show D.str (sx l) = sd l from rfl, ev_told h hl, hr]
  rfl
theorem Y1_ok : ∀ d ∈ Y1, m_u_law_told [d] = some ⟨.O, .non⟩ := by
  unfold Y1
  simp only [List.forall_mem_cons]
  exact ⟨told_exc rfl ntx_non, told_exc rfl ntx_int, told_exc rfl ntx_bl, told_exc (by decide) ntx_lst, told_exc (by rfl) ntx_lst, told_bad (l := []) (by decide +kernel) (by decide +kernel) (by decide) (by decide +kernel), told_bad (l := [32]) (by decide +kernel) (by decide +kernel) (by decide) (by decide +kernel), told_bad (l := [120, 32]) (by decide +kernel) (by decide +kernel) (by decide) (by decide +kernel), told_bad (l := [32, 120]) (by decide +kernel) (by decide +kernel) (by decide) (by decide +kernel), told_bad (l := [120, 32, 43, 32]) (by decide +kernel) (by decide +kernel) (by decide) (by decide +kernel), told_bad (l := [43, 32, 120]) (by decide +kernel) (by decide +kernel) (by decide) (by decide +kernel), told_bad (l := [43, 120]) (by decide +kernel) (by decide +kernel) (by decide) (by decide +kernel), told_bad (l := [45, 45, 120]) (by decide +kernel) (by decide +kernel) (by decide) (by decide +kernel), told_bad (l := [45, 32, 120]) (by decide +kernel) (by decide +kernel) (by decide) (by decide +kernel), told_bad (l := [45, 48]) (by decide +kernel) (by decide +kernel) (by decide) (by decide +kernel), told_bad (l := [48, 48]) (by decide +kernel) (by decide +kernel) (by decide) (by decide +kernel), told_bad (l := [48, 49]) (by decide +kernel) (by decide +kernel) (by decide) (by decide +kernel), told_bad (l := [49, 42, 120]) (by decide +kernel) (by decide +kernel) (by decide) (by decide +kernel), fun d h => nomatch h⟩
theorem Y2_ok : ∀ d ∈ Y2, m_u_law_told [d] = some ⟨.O, .non⟩ := by
  unfold Y2
  simp only [List.forall_mem_cons]
  exact ⟨told_bad (l := [120, 94, 49]) (by decide +kernel) (by decide +kernel) (by decide) (by decide +kernel), told_bad (l := [120, 94, 48]) (by decide +kernel) (by decide +kernel) (by decide) (by decide +kernel), told_bad (l := [120, 94, 48, 49]) (by decide +kernel) (by decide +kernel) (by decide) (by decide +kernel), told_bad (l := [120, 94, 49, 51]) (by decide +kernel) (by decide +kernel) (by decide) (by decide +kernel), told_bad (l := [48, 42, 120]) (by decide +kernel) (by decide +kernel) (by decide) (by decide +kernel), told_bad (l := [120, 32, 43, 32, 120]) (by decide +kernel) (by decide +kernel) (by decide) (by decide +kernel), told_bad (l := [49, 32, 43, 32, 120]) (by decide +kernel) (by decide +kernel) (by decide) (by decide +kernel), told_bad (l := [120, 32, 45, 32, 48]) (by decide +kernel) (by decide +kernel) (by decide) (by decide +kernel), told_bad (l := [120, 32, 43, 32, 45, 49]) (by decide +kernel) (by decide +kernel) (by decide) (by decide +kernel), told_bad (l := [120, 32, 32, 43, 32, 49]) (by decide +kernel) (by decide +kernel) (by decide) (by decide +kernel), told_bad (l := [88]) (by decide +kernel) (by decide +kernel) (by decide) (by decide +kernel), told_bad (l := [121]) (by decide +kernel) (by decide +kernel) (by decide) (by decide +kernel), told_bad (l := [50, 120]) (by decide +kernel) (by decide +kernel) (by decide) (by decide +kernel), fun d h => nomatch h⟩
theorem Y3_ok : ∀ d ∈ Y3, m_u_law_told [d] = some ⟨.O, .non⟩ := by
  unfold Y3
  simp only [List.forall_mem_cons]
  exact ⟨told_bad (l := [120, 42, 50]) (by decide +kernel) (by decide +kernel) (by decide) (by decide +kernel), told_bad (l := [50, 42, 51]) (by decide +kernel) (by decide +kernel) (by decide) (by decide +kernel), told_bad (l := [120, 94]) (by decide +kernel) (by decide +kernel) (by decide) (by decide +kernel), told_bad (l := [120, 94, 45, 49]) (by decide +kernel) (by decide +kernel) (by decide) (by decide +kernel), told_bad (l := [120, 42, 120]) (by decide +kernel) (by decide +kernel) (by decide) (by decide +kernel), told_bad (l := [49, 49, 49, 49, 49, 49, 49, 49, 49, 49, 49, 49, 49, 49, 49, 49, 49, 49, 49, 49, 49, 49, 49, 49, 49, 49, 49, 49, 49, 49, 49, 49, 49, 49, 49, 49, 49, 49, 49, 49, 49, 49, 49, 49, 49, 49, 49, 49, 49, 49, 49, 49, 49, 49, 49, 49, 49, 49, 49, 49, 49]) (by decide +kernel) (by decide +kernel) (by decide) (by decide +kernel), told_bad (l := [120, 32, 43, 32, 57, 57, 57, 57, 57, 57, 57, 57, 57, 57, 57, 57, 57, 57, 57, 57, 57, 57, 57, 57, 57, 57, 57, 57, 57, 57, 57, 57, 57, 57, 57, 57, 57, 57, 57, 57, 57, 57, 57, 57, 57, 57, 57, 57, 57, 57, 57, 57, 57, 57, 57, 57, 57, 57, 57, 57, 57, 57, 57, 57, 57]) (by decide +kernel) (by decide +kernel) (by decide) (by decide +kernel), told_bad (l := [49, 46, 48]) (by decide +kernel) (by decide +kernel) (by decide) (by decide +kernel), told_bad (l := [49, 47, 50]) (by decide +kernel) (by decide +kernel) (by decide) (by decide +kernel), told_bad (l := [120, 10]) (by decide +kernel) (by decide +kernel) (by decide) (by decide +kernel), told_bad (l := [120, 94, 50, 32, 43, 32, 120, 94, 50]) (by decide +kernel) (by decide +kernel) (by decide) (by decide +kernel), fun d h => nomatch h⟩
end Tr

set_option exponentiation.threshold 1000
namespace Tr
open PySem L2 TL NumText
theorem opNe_toD {m p : Mode} (x : Option (List Int)) : opNe [⟨m, toD x⟩, ⟨p, toD x⟩] = some ⟨.O, .bl false⟩ := by
  cases x with
  | none => rw [toD, opNe_ap]; simp only [pyOk_non, Bool.and_self, if_true]; rfl
  | some f => simp [toD]
theorem wr_len {f : List Int} (hl : f.length ≤ 13) (hc : ∀ x ∈ f, x.natAbs < 10 ^ 60) : 1 ≤ (wr f).length ∧ (wr f).length ≤ 7000 := by
  have h5 : ∀ x ∈ f, x.natAbs < 10 ^ 500 := fun x hx => Nat.lt_of_lt_of_le (hc x hx) (Nat.le_of_ble_eq_true rfl : (10 : Nat) ^ 60 ≤ 10 ^ 500)
  have := wrT_len h5 (by omega) f.length
  unfold wr
  split
  · decide
  · rename_i q
    have : 1 ≤ (wrT f f.length).length := by
      cases e : wrT f f.length with
      | nil => exact absurd e q
      | cons c r => simp
    omega
theorem toD_flat (x : Option (List Int)) : toD x = .non ∨ ∃ f, toD x = il f := by cases x with
  | none => exact .inl rfl
  | some f => exact .inr ⟨f, rfl⟩
theorem X1_ap {ρ : Env} : X1 ρ = some (⟨.O, .lst Y1⟩, ρ) := by
  unfold X1 Y1
  simp
theorem X2_ap {ρ : Env} : X2 ρ = some (⟨.O, .lst Y2⟩, ρ) := by
  unfold X2 Y2
  simp
theorem X3_ap {ρ : Env} : X3 ρ = some (⟨.O, .lst Y3⟩, ρ) := by
  have m1 : ∀ m p, opMulS [⟨m, .str "1"⟩, ⟨p, .int 61⟩] = some ⟨.O, .str (repS "1" 61)⟩ := fun m p => by
    simp only [opMulS]
    rw [if_pos (ok_of ⟨by decide, by decide, by decide +kernel, by decide +kernel⟩)]
    rfl
  have m2 : ∀ m p, opMulS [⟨m, .str "9"⟩, ⟨p, .int 61⟩] = some ⟨.O, .str (repS "9" 61)⟩ := fun m p => by
    simp only [opMulS]
    rw [if_pos (ok_of ⟨by decide, by decide, by decide +kernel, by decide +kernel⟩)]
    rfl
  have a1 : ∀ m p, opAdd [⟨m, .str "x + "⟩, ⟨p, .str (repS "9" 61)⟩] = some ⟨.O, .str (("x + " : Str) ++ repS "9" 61)⟩ := fun m p => by
    simp only [opAdd]
    rw [if_pos (ok_of (by rw [repS_len]; have := sizeLine_big; have h1 : ("x + " : Str).length = 4 := by decide +kernel
                          have h2 : ("9" : Str).length = 1 := by decide +kernel
                          rw [h1, h2]; omega))]
  unfold X3 Y3
  simp [m1, m2, a1]
theorem opAdd_lsts {m p : Mode} {a b : List D} (h : a.length + b.length ≤ 1000) (hf : D.flats a = false) : opAdd [⟨m, .lst a⟩, ⟨p, .lst b⟩] = some ⟨.S, .lst (a ++ b)⟩ := by
  simp only [opAdd]
  rw [if_pos (ok_of (by have := sizeLine_big; omega))]
  have : D.flats (a ++ b) = false := by
    induction a with
    | nil => simp [D.flats] at hf
    | cons x a ih =>
      rw [List.cons_append, D.flats]
      rw [D.flats] at hf
      cases hx : x.flat with
      | false => rfl
      | true =>
        rw [hx] at hf
        rw [ih (by simp at h ⊢; omega) (by simpa using hf)]
        rfl
  rw [mkL, if_neg (by rw [this]; decide)]
theorem law_true (ns : List Int) (hl : ns.length ≤ 63) : ∃ m, m_law [.scr ns] = some ⟨m, .bl true⟩ := by
  obtain ⟨N, hN, eN⟩ : ∃ N : Nat, N ≤ 6 ∧ (max 2 (min 6 ((ns.length : Nat) : Int))) = (N : Int) := ⟨max 2 (min 6 ns.length), by omega, by omega⟩
  have sN : small (N : Int) = true := small_of (by omega)
  obtain ⟨ρ', e, x1, x2, x3, rfl⟩ := sFor_list (src := iRange3 (sCons (sCon (.int 0)) (sCons (sApp opMax2 (sCons (sCon (.int 2)) (sCons (sApp opMin2 (sCons (sCon (.int 6)) (sCons (sApp opLen (sCons (sVar 0) sNil)) sNil))) sNil))) (sCons (sCon (.int 2)) sNil)))) (g := sGName 1) (b := w_law_1) (f := fun (k : Nat) => D.int (0 + (k : Int) * 2)) (xs := List.range ((N + 1) / 2))
    (ρ := [some ⟨.F, false, .scr ns⟩, none, none, none, none, none])
    (fun j ρ => ∃ x1 x2 x3, ρ = [some ⟨.F, false, .scr ns⟩, x1, x2, x3, none, none])
    (iRange3_gen (m1 := .O) (m2 := .O) (m3 := .O) (N := (N + 1) / 2) (i := 0) (j := (N : Int)) (c := 2) (by simp [eN, sN]; rfl) (by decide) (by omega) (by decide) (by decide) (by
      unfold Builtin.Range.rangeSize
      rw [if_pos (by decide)]
      split <;> omega) (by omega)) ⟨none, none, none, by simp⟩ (by
      rintro j kk ρ hk ⟨x1, x2, x3, rfl⟩
      have hj : j < (N + 1) / 2 := by have := lt_of_get hk; simpa using this
      rw [List.getElem?_range hj] at hk
      cases hk
      obtain ⟨A, hA⟩ : ∃ A : Int, A = 0 + (j : Int) * 2 := ⟨_, rfl⟩
      rw [← hA]
      obtain ⟨b, eb, hb⟩ := ev_bag (ns := ns) (k := A) (by omega) (by omega)
      obtain ⟨f, b', ef, h1, h2, h3, _⟩ := ev_lpolynomial hb
      have h5 : ∀ x ∈ f, x.natAbs < 10 ^ 500 := fun x hx => Nat.lt_of_lt_of_le (h3 x hx) (Nat.le_of_ble_eq_true rfl : (10 : Nat) ^ 60 ≤ 10 ^ 500)
      have ew := ev_law_written h5 (by omega)
      have wa := wr_asc f
      obtain ⟨wl1, wl2⟩ := wr_len h2 h3
      have rw' := rd_wr h1 h2 h3
      generalize wr f = t at *
      obtain ⟨c, ec, hc⟩ := ev_bag (ns := ns) (k := A + 1) (by omega) (by omega)
      obtain ⟨t', c', et', at', lt', _⟩ := ev_changed wa wl1 wl2 hc
      have d1 := ev_told at' lt'
      have d2 := ev_due at' lt'
      have d3 := ev_told wa (by omega)
      have d4 := ev_due wa (by omega)
      have n1 := fun m p => opNe_toD (m := m) (p := p) (rdPoly t')
      have n2 := fun m p => opNe_toD (m := m) (p := p) (rdPoly t)
      rw [rw'] at d3 d4 n2
      have tn : D.isNon (toD (some f)) = false := rfl
      generalize toD (some f) = u at *
      generalize toD (rdPoly t') = u' at *
      have hcT : ∀ s : Env, sCallT2 m_u_law_changed (sVar 2) (sApp (opFn m_u_law_bag) (sCons (sVar 0) (sCons (sApp2 opAdd (sVar 1) (sCon (.int 1))) sNil))) sNil [some ⟨.F, false, .scr ns⟩, some ⟨.O, false, .int A⟩, some ⟨.O, false, sd t⟩, x3, none, none] = some (⟨.O, sd t'⟩, [some ⟨.F, false, .scr ns⟩, some ⟨.O, false, .int A⟩, some ⟨.O, false, sd t⟩, x3, none, none]) := fun _ => by
        unfold sCallT2
        simp [ec, swapD, et']
      have hcT := hcT []
      simp only [w_law_1]
      simp [eb, ef, ew, hcT, d1, d2, d3, d4, n1, n2, tn])
  have e : lp_law_1 _ = _ := e
  have hB : ∀ d ∈ Y1 ++ Y2 ++ Y3, m_u_law_told [d] = some ⟨.O, .non⟩ := fun d hd => by
    simp only [List.mem_append] at hd
    rcases hd with (hd | hd) | hd
    · exact Y1_ok d hd
    · exact Y2_ok d hd
    · exact Y3_ok d hd
  have l1 : Y1.length = 18 := rfl
  have l2 : Y2.length = 13 := rfl
  have l3 : Y3.length = 11 := rfl
  have a1 := fun m p => opAdd_lsts (m := m) (p := p) (a := Y1) (b := Y2) (by omega) (by rfl)
  have a2 := fun m p => opAdd_lsts (m := m) (p := p) (a := Y1 ++ Y2) (b := Y3) (by rw [List.length_append]; omega) (by rfl)
  have lB : (Y1 ++ Y2 ++ Y3).length ≤ sizeLine := by have := sizeLine_big; simp only [List.length_append]; omega
  generalize Y1 ++ Y2 ++ Y3 = B at *
  have hc : ∀ y1 y2 y3, lc_law_1 [some ⟨.F, false, .scr ns⟩, y1, y2, y3, some ⟨.S, false, .lst B⟩, none] = some (⟨.O, .lst []⟩, [some ⟨.F, false, .scr ns⟩, y1, y2, y3, some ⟨.S, false, .lst B⟩, none]) := fun y1 y2 y3 => by
    have := sLc_gen (ρ := [some ⟨.F, false, .scr ns⟩, y1, y2, y3, some ⟨.S, false, .lst B⟩, none]) (ρ1 := [some ⟨.F, false, .scr ns⟩, y1, y2, y3, some ⟨.S, true, .lst B⟩, none]) (ls := []) (vs := [5]) (src := iSq (sVar 4)) (g := sGName 5) (t := sTest (sApp2 opNotN (sApp (opFn m_u_law_told) (sCons (sVar 5) sNil)) (sCon .non))) (f := sVar 5) (ds := B)
      (fun d => [none, none, none, none, none, some ⟨(nrm .F d).m, false, d⟩]) (fun _ => false) (fun d => d)
      (by simp) (by simp) lB (fun d hd => by by_cases hf : d.flat = true <;> simp [hide, view1, List.mapIdx_cons, nrm, hf]) (fun d hd => by simp [hide, view1, wipeE, List.mapIdx_cons]) (fun d hd => by
        by_cases hf : d.flat = true <;> simp [hf, nrm, hB d hd, D.isNon]) (fun d hd z => by cases z)
    have eB : B.filter (fun _ => false) = [] := by simp
    rw [eB] at this
    exact this
  have o0 : D.lst [] = il [] := rfl
  refine ⟨.O, ?_⟩
  simp only [m_law, fnSem, law_eq]
  simp [e, X1_ap, X2_ap, X3_ap, a1, a2, hc, o0]
end Tr

namespace Tr
open PySem L2 RZ
/-! the law, the head -/
def spLaw (K : PySem.W.Frag) : Sp := fun vs H Q _ => ∃ (a : Addr) (ns : List Int), vs = [.ref a] ∧ SqL K H a (ns.map V.int) ∧ ns.length ≤ 63 ∧ ∀ H', Q (.bl true) H'
theorem all_mk {l : PySem.W.OpenLaw} {w : World} {K : PySem.W.Frag} {h : Heap} {mg : Str → Option Value} {fa f14 f15 f16 f17 f18 f19 f20 f21 f23 f24 f25 f26 f27 f28 f29 f30 f31 f32 f33 : Addr} (X : K.In h) (G : h.Ns mainGlobals mg) (hfa : mg "law" = some (.ref fa))
    {tk11 : Tok}
    {tk12 : Tok}
    {tk13 : Tok}
    {od14 an14 od15 an15 od16 an16 od17 an17 od18 an18 od19 an19 od20 an20 od21 an21 od23 an23 od24 an24 od25 an25 od26 an26 od27 an27 od28 an28 od29 an29 od30 an30 od31 an31 od32 an32 od33 an33 : Option Addr} {sl14 sl15 sl16 sl17 sl18 sl19 sl20 sl21 sl23 sl24 sl25 sl26 sl27 sl28 sl29 sl30 sl31 sl32 sl33 : Array (Option Value)} {oc14 kV14 dc14 pm14 cd14 ct14 oc15 kV15 dc15 pm15 cd15 ct15 oc16 kV16 dc16 pm16 cd16 ct16 oc17 kV17 dc17 pm17 cd17 ct17 oc18 kV18 dc18 pm18 cd18 ct18 oc19 kV19 dc19 pm19 cd19 ct19 oc20 kV20 dc20 pm20 cd20 ct20 oc21 kV21 dc21 pm21 cd21 ct21 oc23 kV23 dc23 pm23 cd23 ct23 oc24 kV24 dc24 pm24 cd24 ct24 oc25 kV25 dc25 pm25 cd25 ct25 oc26 kV26 dc26 pm26 cd26 ct26 oc27 kV27 dc27 pm27 cd27 ct27 oc28 kV28 dc28 pm28 cd28 ct28 oc29 kV29 dc29 pm29 cd29 ct29 oc30 kV30 dc30 pm30 cd30 ct30 oc31 kV31 dc31 pm31 cd31 ct31 oc32 kV32 dc32 pm32 cd32 ct32 oc33 kV33 dc33 pm33 cd33 ct33 : Value}
    (a14 : PySem.W.nsIn K mainGlobals "is_plain_number" = some (some (.ref f14))) (l14 : K.lookup f14 = some ⟨oc14, od14, .func (PySem.W.fnOf "is_plain_number" "is_plain_number" (defArgs (top 14)) (defBody (top 14)) (defScope (top 14)) .none kV14 dc14 pm14 an14 cd14 ct14), sl14⟩) (c14 : PySem.W.codeIn K cd14 "is_plain_number" = true) (k14 : PySem.W.keepIn K (.ref f14) = true)
    (a15 : PySem.W.nsIn K mainGlobals "letter_text" = some (some (.ref f15))) (l15 : K.lookup f15 = some ⟨oc15, od15, .func (PySem.W.fnOf "letter_text" "letter_text" (defArgs (top 15)) (defBody (top 15)) (defScope (top 15)) .none kV15 dc15 pm15 an15 cd15 ct15), sl15⟩) (c15 : PySem.W.codeIn K cd15 "letter_text" = true) (k15 : PySem.W.keepIn K (.ref f15) = true)
    (a16 : PySem.W.nsIn K mainGlobals "term_text" = some (some (.ref f16))) (l16 : K.lookup f16 = some ⟨oc16, od16, .func (PySem.W.fnOf "term_text" "term_text" (defArgs (top 16)) (defBody (top 16)) (defScope (top 16)) .none kV16 dc16 pm16 an16 cd16 ct16), sl16⟩) (c16 : PySem.W.codeIn K cd16 "term_text" = true) (k16 : PySem.W.keepIn K (.ref f16) = true)
    (a17 : PySem.W.nsIn K mainGlobals "written" = some (some (.ref f17))) (l17 : K.lookup f17 = some ⟨oc17, od17, .func (PySem.W.fnOf "written" "written" (defArgs (top 17)) (defBody (top 17)) (defScope (top 17)) .none kV17 dc17 pm17 an17 cd17 ct17), sl17⟩) (c17 : PySem.W.codeIn K cd17 "written" = true) (k17 : PySem.W.keepIn K (.ref f17) = true)
    (a18 : PySem.W.nsIn K mainGlobals "read_power" = some (some (.ref f18))) (l18 : K.lookup f18 = some ⟨oc18, od18, .func (PySem.W.fnOf "read_power" "read_power" (defArgs (top 18)) (defBody (top 18)) (defScope (top 18)) .none kV18 dc18 pm18 an18 cd18 ct18), sl18⟩) (c18 : PySem.W.codeIn K cd18 "read_power" = true) (k18 : PySem.W.keepIn K (.ref f18) = true)
    (a19 : PySem.W.nsIn K mainGlobals "read_term" = some (some (.ref f19))) (l19 : K.lookup f19 = some ⟨oc19, od19, .func (PySem.W.fnOf "read_term" "read_term" (defArgs (top 19)) (defBody (top 19)) (defScope (top 19)) .none kV19 dc19 pm19 an19 cd19 ct19), sl19⟩) (c19 : PySem.W.codeIn K cd19 "read_term" = true) (k19 : PySem.W.keepIn K (.ref f19) = true)
    (a20 : PySem.W.nsIn K mainGlobals "read_terms" = some (some (.ref f20))) (l20 : K.lookup f20 = some ⟨oc20, od20, .func (PySem.W.fnOf "read_terms" "read_terms" (defArgs (top 20)) (defBody (top 20)) (defScope (top 20)) .none kV20 dc20 pm20 an20 cd20 ct20), sl20⟩) (c20 : PySem.W.codeIn K cd20 "read_terms" = true) (k20 : PySem.W.keepIn K (.ref f20) = true)
    (a21 : PySem.W.nsIn K mainGlobals "read_polynomial" = some (some (.ref f21))) (l21 : K.lookup f21 = some ⟨oc21, od21, .func (PySem.W.fnOf "read_polynomial" "read_polynomial" (defArgs (top 21)) (defBody (top 21)) (defScope (top 21)) .none kV21 dc21 pm21 an21 cd21 ct21), sl21⟩) (c21 : PySem.W.codeIn K cd21 "read_polynomial" = true) (k21 : PySem.W.keepIn K (.ref f21) = true)
    (a23 : PySem.W.nsIn K mainGlobals "_law_bag" = some (some (.ref f23))) (l23 : K.lookup f23 = some ⟨oc23, od23, .func (PySem.W.fnOf "_law_bag" "_law_bag" (defArgs (top 23)) (defBody (top 23)) (defScope (top 23)) .none kV23 dc23 pm23 an23 cd23 ct23), sl23⟩) (c23 : PySem.W.codeIn K cd23 "_law_bag" = true) (k23 : PySem.W.keepIn K (.ref f23) = true)
    (a24 : PySem.W.nsIn K mainGlobals "_law_take" = some (some (.ref f24))) (l24 : K.lookup f24 = some ⟨oc24, od24, .func (PySem.W.fnOf "_law_take" "_law_take" (defArgs (top 24)) (defBody (top 24)) (defScope (top 24)) .none kV24 dc24 pm24 an24 cd24 ct24), sl24⟩) (c24 : PySem.W.codeIn K cd24 "_law_take" = true) (k24 : PySem.W.keepIn K (.ref f24) = true)
    (a25 : PySem.W.nsIn K mainGlobals "_law_number" = some (some (.ref f25))) (l25 : K.lookup f25 = some ⟨oc25, od25, .func (PySem.W.fnOf "_law_number" "_law_number" (defArgs (top 25)) (defBody (top 25)) (defScope (top 25)) .none kV25 dc25 pm25 an25 cd25 ct25), sl25⟩) (c25 : PySem.W.codeIn K cd25 "_law_number" = true) (k25 : PySem.W.keepIn K (.ref f25) = true)
    (a26 : PySem.W.nsIn K mainGlobals "_law_polynomial" = some (some (.ref f26))) (l26 : K.lookup f26 = some ⟨oc26, od26, .func (PySem.W.fnOf "_law_polynomial" "_law_polynomial" (defArgs (top 26)) (defBody (top 26)) (defScope (top 26)) .none kV26 dc26 pm26 an26 cd26 ct26), sl26⟩) (c26 : PySem.W.codeIn K cd26 "_law_polynomial" = true) (k26 : PySem.W.keepIn K (.ref f26) = true)
    (a27 : PySem.W.nsIn K mainGlobals "_law_written" = some (some (.ref f27))) (l27 : K.lookup f27 = some ⟨oc27, od27, .func (PySem.W.fnOf "_law_written" "_law_written" (defArgs (top 27)) (defBody (top 27)) (defScope (top 27)) .none kV27 dc27 pm27 an27 cd27 ct27), sl27⟩) (c27 : PySem.W.codeIn K cd27 "_law_written" = true) (k27 : PySem.W.keepIn K (.ref f27) = true)
    (a28 : PySem.W.nsIn K mainGlobals "_law_value" = some (some (.ref f28))) (l28 : K.lookup f28 = some ⟨oc28, od28, .func (PySem.W.fnOf "_law_value" "_law_value" (defArgs (top 28)) (defBody (top 28)) (defScope (top 28)) .none kV28 dc28 pm28 an28 cd28 ct28), sl28⟩) (c28 : PySem.W.codeIn K cd28 "_law_value" = true) (k28 : PySem.W.keepIn K (.ref f28) = true)
    (a29 : PySem.W.nsIn K mainGlobals "_law_term" = some (some (.ref f29))) (l29 : K.lookup f29 = some ⟨oc29, od29, .func (PySem.W.fnOf "_law_term" "_law_term" (defArgs (top 29)) (defBody (top 29)) (defScope (top 29)) .none kV29 dc29 pm29 an29 cd29 ct29), sl29⟩) (c29 : PySem.W.codeIn K cd29 "_law_term" = true) (k29 : PySem.W.keepIn K (.ref f29) = true)
    (a30 : PySem.W.nsIn K mainGlobals "_law_due" = some (some (.ref f30))) (l30 : K.lookup f30 = some ⟨oc30, od30, .func (PySem.W.fnOf "_law_due" "_law_due" (defArgs (top 30)) (defBody (top 30)) (defScope (top 30)) .none kV30 dc30 pm30 an30 cd30 ct30), sl30⟩) (c30 : PySem.W.codeIn K cd30 "_law_due" = true) (k30 : PySem.W.keepIn K (.ref f30) = true)
    (a31 : PySem.W.nsIn K mainGlobals "_law_told" = some (some (.ref f31))) (l31 : K.lookup f31 = some ⟨oc31, od31, .func (PySem.W.fnOf "_law_told" "_law_told" (defArgs (top 31)) (defBody (top 31)) (defScope (top 31)) .none kV31 dc31 pm31 an31 cd31 ct31), sl31⟩) (c31 : PySem.W.codeIn K cd31 "_law_told" = true) (k31 : PySem.W.keepIn K (.ref f31) = true)
    (a32 : PySem.W.nsIn K mainGlobals "_law_changed" = some (some (.ref f32))) (l32 : K.lookup f32 = some ⟨oc32, od32, .func (PySem.W.fnOf "_law_changed" "_law_changed" (defArgs (top 32)) (defBody (top 32)) (defScope (top 32)) .none kV32 dc32 pm32 an32 cd32 ct32), sl32⟩) (c32 : PySem.W.codeIn K cd32 "_law_changed" = true) (k32 : PySem.W.keepIn K (.ref f32) = true)
    (a33 : PySem.W.nsIn K mainGlobals "law" = some (some (.ref f33))) (l33 : K.lookup f33 = some ⟨oc33, od33, .func (PySem.W.fnOf "law" "law" (defArgs (top 33)) (defBody (top 33)) (defScope (top 33)) .none kV33 dc33 pm33 an33 cd33 ct33), sl33⟩) (c33 : PySem.W.codeIn K cd33 "law" = true) (k33 : PySem.W.keepIn K (.ref f33) = true)
    (a11 : PySem.W.nsIn K mainGlobals "FIGURES" = some (some (.str "0123456789" tk11)))
    (a12 : PySem.W.nsIn K mainGlobals "MOST_FIGURES" = some (some (.int 60 tk12)))
    (a13 : PySem.W.nsIn K mainGlobals "MOST_POWER" = some (some (.int 12 tk13)))
    (z_ValueError : PySem.W.nsIn K mainGlobals "ValueError" = some none)
    (z_abs : PySem.W.nsIn K mainGlobals "abs" = some none)
    (z_all : PySem.W.nsIn K mainGlobals "all" = some none)
    (z_int : PySem.W.nsIn K mainGlobals "int" = some none)
    (z_isinstance : PySem.W.nsIn K mainGlobals "isinstance" = some none)
    (z_len : PySem.W.nsIn K mainGlobals "len" = some none)
    (z_max : PySem.W.nsIn K mainGlobals "max" = some none)
    (z_min : PySem.W.nsIn K mainGlobals "min" = some none)
    (z_range : PySem.W.nsIn K mainGlobals "range" = some none)
    (z_str : PySem.W.nsIn K mainGlobals "str" = some none)
    {e_BranchError e_NoPolynomial e_NoPrime e_NoRow e_NoSize e_NoText e_NoTower e_NotPlain e_TooDeep : Addr}
    (ea_BranchError : PySem.W.nsIn K mainGlobals "BranchError" = some (some (.ref e_BranchError)))
    (ea_NoPolynomial : PySem.W.nsIn K mainGlobals "NoPolynomial" = some (some (.ref e_NoPolynomial)))
    (ea_NoPrime : PySem.W.nsIn K mainGlobals "NoPrime" = some (some (.ref e_NoPrime)))
    (ea_NoRow : PySem.W.nsIn K mainGlobals "NoRow" = some (some (.ref e_NoRow)))
    (ea_NoSize : PySem.W.nsIn K mainGlobals "NoSize" = some (some (.ref e_NoSize)))
    (ea_NoText : PySem.W.nsIn K mainGlobals "NoText" = some (some (.ref e_NoText)))
    (ea_NoTower : PySem.W.nsIn K mainGlobals "NoTower" = some (some (.ref e_NoTower)))
    (ea_NotPlain : PySem.W.nsIn K mainGlobals "NotPlain" = some (some (.ref e_NotPlain)))
    (ea_TooDeep : PySem.W.nsIn K mainGlobals "TooDeep" = some (some (.ref e_TooDeep)))
    (ex_NoText : PySem.W.excIn K e_NoText [.type "ValueError", .type "Exception", .type "BaseException", .type "object"] "ValueError.__new__" = true) (ek_NoText : PySem.W.keepIn K (.ref e_NoText) = true) (es_NoText : PySem.W.subIn K (.ref e_NoText) (.type "BaseException") = some true) (ey_NoText : PySem.W.typeIn K (.ref e_NoText) = some (.type "type"))
    (eg_NoText : PySem.W.findIn K (.ref e_NoText) "__getattribute__" = some (some (.builtin "BaseException.__getattribute__"))) (eh_NoText : PySem.W.findIn K (.ref e_NoText) "__getattr__" = some none) (ed_NoText : PySem.W.hasDictIn K e_NoText = true) (ec_NoText : PySem.W.findIn K (.ref e_NoText) "__class__" = some (some (.builtin "object.__class__"))) (em_NoText : PySem.W.mroIn K e_NoText (.type "object") = some true)
    (eq_NoText_BranchError : PySem.W.exmOne K (.ref e_NoText) (.ref e_BranchError) = some true)
    (e_n : PySem.W.specialIn K (.builtin "object.__class__") "__get__" = some (some (.builtin "getset_descriptor.__get__"))) (e_t : PySem.W.takesIn K (.builtin "object.__class__") = some true)
    (ki_NoText_BranchError : PySem.W.kitOne K (.ref e_NoText) (.ref e_BranchError) = some true)
    (ki_NoText_NoPolynomial : PySem.W.kitOne K (.ref e_NoText) (.ref e_NoPolynomial) = some false)
    (ki_NoText_NoPrime : PySem.W.kitOne K (.ref e_NoText) (.ref e_NoPrime) = some false)
    (ki_NoText_NoRow : PySem.W.kitOne K (.ref e_NoText) (.ref e_NoRow) = some false)
    (ki_NoText_NoSize : PySem.W.kitOne K (.ref e_NoText) (.ref e_NoSize) = some false)
    (ki_NoText_NoText : PySem.W.kitOne K (.ref e_NoText) (.ref e_NoText) = some true)
    (ki_NoText_NoTower : PySem.W.kitOne K (.ref e_NoText) (.ref e_NoTower) = some false)
    (ki_NoText_NotPlain : PySem.W.kitOne K (.ref e_NoText) (.ref e_NotPlain) = some false)
    (ki_NoText_TooDeep : PySem.W.kitOne K (.ref e_NoText) (.ref e_TooDeep) = some false)
    (kt_NoText_ValueError : PySem.W.kitOne K (.ref e_NoText) (.type "ValueError") = some true)
    : ∃ fd : FuncData, (∀ (s : Shared) (v : Value), BindsTo s fd ⟨[v], []⟩ [("_law_script", v)]) ∧ ∀ base : Heap, K.In base → base.Ns mainGlobals mg → FnOk l.prog w K mg base CX0 7 fa fd ["_law_script"] (spLaw K) := by
  have e := hfa.symm.trans (PySem.W.mg_of X G a33)
  cases e
  have F14 := fun_mk (st := top 14) l14 c14 k14
  have F15 := fun_mk (st := top 15) l15 c15 k15
  have F16 := fun_mk (st := top 16) l16 c16 k16
  have F17 := fun_mk (st := top 17) l17 c17 k17
  have F18 := fun_mk (st := top 18) l18 c18 k18
  have F19 := fun_mk (st := top 19) l19 c19 k19
  have F20 := fun_mk (st := top 20) l20 c20 k20
  have F21 := fun_mk (st := top 21) l21 c21 k21
  have F23 := fun_mk (st := top 23) l23 c23 k23
  have F24 := fun_mk (st := top 24) l24 c24 k24
  have F25 := fun_mk (st := top 25) l25 c25 k25
  have F26 := fun_mk (st := top 26) l26 c26 k26
  have F27 := fun_mk (st := top 27) l27 c27 k27
  have F28 := fun_mk (st := top 28) l28 c28 k28
  have F29 := fun_mk (st := top 29) l29 c29 k29
  have F30 := fun_mk (st := top 30) l30 c30 k30
  have F31 := fun_mk (st := top 31) l31 c31 k31
  have F32 := fun_mk (st := top 32) l32 c32 k32
  have F33 := fun_mk (st := top 33) l33 c33 k33
  obtain ⟨cl, hcl⟩ : ∃ cl : String → Addr, cl = (fun n => if n = "BranchError" then e_BranchError else if n = "NoPolynomial" then e_NoPolynomial else if n = "NoPrime" then e_NoPrime else if n = "NoRow" then e_NoRow else if n = "NoSize" then e_NoSize else if n = "NoText" then e_NoText else if n = "NoTower" then e_NoTower else if n = "NotPlain" then e_NotPlain else if n = "TooDeep" then e_TooDeep else 0) := ⟨_, rfl⟩
  have cl_BranchError : cl "BranchError" = e_BranchError := by rw [hcl]; simp
  have cl_NoPolynomial : cl "NoPolynomial" = e_NoPolynomial := by rw [hcl]; simp
  have cl_NoPrime : cl "NoPrime" = e_NoPrime := by rw [hcl]; simp
  have cl_NoRow : cl "NoRow" = e_NoRow := by rw [hcl]; simp
  have cl_NoSize : cl "NoSize" = e_NoSize := by rw [hcl]; simp
  have cl_NoText : cl "NoText" = e_NoText := by rw [hcl]; simp
  have cl_NoTower : cl "NoTower" = e_NoTower := by rw [hcl]; simp
  have cl_NotPlain : cl "NotPlain" = e_NotPlain := by rw [hcl]; simp
  have cl_TooDeep : cl "TooDeep" = e_TooDeep := by rw [hcl]; simp
  have T : Tx K mg cl _ _ _ _ _ _ _ _ _ _ _ _ _ _ _ _ _ _ _ _ _ _ _ _ _ _ _ _ _ _ _ _ _ _ _ _ _ _ := ⟨by rw [cl_BranchError]; exact PySem.W.mg_of X G ea_BranchError,
    by rw [cl_NoPolynomial]; exact PySem.W.mg_of X G ea_NoPolynomial,
    by rw [cl_NoPrime]; exact PySem.W.mg_of X G ea_NoPrime,
    by rw [cl_NoRow]; exact PySem.W.mg_of X G ea_NoRow,
    by rw [cl_NoSize]; exact PySem.W.mg_of X G ea_NoSize,
    by rw [cl_NoText]; exact PySem.W.mg_of X G ea_NoText,
    by rw [cl_NoTower]; exact PySem.W.mg_of X G ea_NoTower,
    by rw [cl_NotPlain]; exact PySem.W.mg_of X G ea_NotPlain,
    by rw [cl_TooDeep]; exact PySem.W.mg_of X G ea_TooDeep,
    by rw [cl_NoText]; exact ex_NoText,
    by rw [cl_NoText]; exact ek_NoText,
    by rw [cl_NoText]; exact es_NoText,
    by rw [cl_NoText]; exact ey_NoText,
    (fun n h => by
      simp only [csX, beq_iff_eq] at h
      subst h
      rw [cl_NoText]; exact ⟨eg_NoText, eh_NoText, es_NoText, ed_NoText, ec_NoText, e_n, e_t, em_NoText⟩),
    ⟨by simp only [tbC, List.mem_cons, List.not_mem_nil, or_false, forall_eq_or_imp, forall_eq, cl_BranchError, cl_NoPolynomial, cl_NoPrime, cl_NoRow, cl_NoSize, cl_NoText, cl_NoTower, cl_NotPlain, cl_TooDeep]; exact ⟨ki_NoText_BranchError, ki_NoText_NoPolynomial, ki_NoText_NoPrime, ki_NoText_NoRow, ki_NoText_NoSize, ki_NoText_NoText, ki_NoText_NoTower, ki_NoText_NotPlain, ki_NoText_TooDeep⟩, by simp only [tbT, List.mem_cons, List.not_mem_nil, or_false, forall_eq_or_imp, forall_eq, cl_BranchError, cl_NoPolynomial, cl_NoPrime, cl_NoRow, cl_NoSize, cl_NoText, cl_NoTower, cl_NotPlain, cl_TooDeep]; exact kt_NoText_ValueError⟩,
    (fun n h => by
      simp only [csX, beq_iff_eq] at h
      subst h
      rw [cl_NoText, cl_BranchError]; exact eq_NoText_BranchError),
    F14, PySem.W.mg_of X G a14, F14.binds (ps := ["word"]) (fun _ _ _ _ _ _ us hl => match us, hl with | [_], _ => rfl),
    F15, PySem.W.mg_of X G a15, F15.binds (ps := ["power"]) (fun _ _ _ _ _ _ us hl => match us, hl with | [_], _ => rfl),
    F16, PySem.W.mg_of X G a16, F16.binds (ps := ["number", "power"]) (fun _ _ _ _ _ _ us hl => match us, hl with | [_, _], _ => rfl),
    F17, PySem.W.mg_of X G a17, F17.binds (ps := ["f"]) (fun _ _ _ _ _ _ us hl => match us, hl with | [_], _ => rfl),
    F18, PySem.W.mg_of X G a18, F18.binds (ps := ["word"]) (fun _ _ _ _ _ _ us hl => match us, hl with | [_], _ => rfl),
    F19, PySem.W.mg_of X G a19, F19.binds (ps := ["word"]) (fun _ _ _ _ _ _ us hl => match us, hl with | [_], _ => rfl),
    F20, PySem.W.mg_of X G a20, F20.binds (ps := ["words"]) (fun _ _ _ _ _ _ us hl => match us, hl with | [_], _ => rfl),
    F21, PySem.W.mg_of X G a21, F21.binds (ps := ["text"]) (fun _ _ _ _ _ _ us hl => match us, hl with | [_], _ => rfl),
    F23, PySem.W.mg_of X G a23, F23.binds (ps := ["_law_script", "_law_at"]) (fun _ _ _ _ _ _ us hl => match us, hl with | [_, _], _ => rfl),
    F24, PySem.W.mg_of X G a24, F24.binds (ps := ["_law_bag_here", "_law_many"]) (fun _ _ _ _ _ _ us hl => match us, hl with | [_, _], _ => rfl),
    F25, PySem.W.mg_of X G a25, F25.binds (ps := ["_law_bag_here"]) (fun _ _ _ _ _ _ us hl => match us, hl with | [_], _ => rfl),
    F26, PySem.W.mg_of X G a26, F26.binds (ps := ["_law_bag_here"]) (fun _ _ _ _ _ _ us hl => match us, hl with | [_], _ => rfl),
    F27, PySem.W.mg_of X G a27, F27.binds (ps := ["_law_f"]) (fun _ _ _ _ _ _ us hl => match us, hl with | [_], _ => rfl),
    F28, PySem.W.mg_of X G a28, F28.binds (ps := ["_law_word"]) (fun _ _ _ _ _ _ us hl => match us, hl with | [_], _ => rfl),
    F29, PySem.W.mg_of X G a29, F29.binds (ps := ["_law_word"]) (fun _ _ _ _ _ _ us hl => match us, hl with | [_], _ => rfl),
    F30, PySem.W.mg_of X G a30, F30.binds (ps := ["_law_text"]) (fun _ _ _ _ _ _ us hl => match us, hl with | [_], _ => rfl),
    F31, PySem.W.mg_of X G a31, F31.binds (ps := ["_law_thing"]) (fun _ _ _ _ _ _ us hl => match us, hl with | [_], _ => rfl),
    F32, PySem.W.mg_of X G a32, F32.binds (ps := ["_law_text", "_law_bag_here"]) (fun _ _ _ _ _ _ us hl => match us, hl with | [_, _], _ => rfl),
    F33, PySem.W.mg_of X G a33, F33.binds (ps := ["_law_script"]) (fun _ _ _ _ _ _ us hl => match us, hl with | [_], _ => rfl),
    ⟨_, PySem.W.mg_of X G a11⟩,
    ⟨_, PySem.W.mg_of X G a12⟩,
    ⟨_, PySem.W.mg_of X G a13⟩,
    PySem.W.mg_none_of X G z_ValueError,
    PySem.W.mg_none_of X G z_abs,
    PySem.W.mg_none_of X G z_all,
    PySem.W.mg_none_of X G z_int,
    PySem.W.mg_none_of X G z_isinstance,
    PySem.W.mg_none_of X G z_len,
    PySem.W.mg_none_of X G z_max,
    PySem.W.mg_none_of X G z_min,
    PySem.W.mg_none_of X G z_range,
    PySem.W.mg_none_of X G z_str⟩
  refine ⟨PySem.W.fnOf "law" "law" (defArgs (top 33)) (defBody (top 33)) (defScope (top 33)) .none kV33 dc33 pm33 an33 cd33 ct33, fun s v => .of_eq rfl, fun base _ _ => ?_⟩
  refine (ok_law (P := l.prog) (w := w) (base := base) (c := cl) T).imp fun vs H Q E hs => ?_
  obtain ⟨a, ns, rfl, hS, hl, k⟩ := hs
  obtain ⟨m, hm⟩ := law_true ns hl
  refine ⟨[.scr ns], H, ⟨m, .bl true⟩, rfl, Same.refl _, .cons (A := []) (B := []) (.scr hS) (.nil _), hm, fun v H' G' C q => ?_⟩
  have rp := q.rep
  obtain ⟨rfl, _⟩ := rep_bl rp
  exact k H'
theorem walk {l : PySem.W.OpenLaw} {q : Program} {loose : List Str} {XP : (Str → Option Value) → Heap → Prop} {YP : World → Heap → Prop} {d : DefRec} {K : Params → PySem.W.Frag} (hn : l.most = some 63) (hdf : d.params.defaults = [])
    (hY : ∀ (w : World) (h : Heap), YP w h → (K w.params).In h)
    (F : ∀ (w : World) (mg : Str → Option Value) (fa : Addr) (h : Heap), (K w.params).In h → h.Ns mainGlobals mg → mg d.name = some (.ref fa) →
      ∃ fd : FuncData, (∀ (s : Shared) (u : Value), BindsTo s fd ⟨[u], []⟩ [("_law_script", u)]) ∧ ∀ base : Heap, (K w.params).In base → base.Ns mainGlobals mg → FnOk l.prog w (K w.params) mg base CX0 7 fa fd ["_law_script"] (spLaw (K w.params))) :
    PySem.W.WalkO q loose XP YP l.row.toRowW d [] (fun f vs => PySem.call f vs) :=
  L2.walk_of (n := 63) (k := 7) (x := "_law_script") (CX := fun _ => CX0) (sp := fun w => spLaw (K w.params)) hn (by decide) hdf ⟨rfl, by decide, by decide⟩ hY F (fun _ _ a ns hl _ hS => ⟨a, ns, rfl, hS, hl, fun _ => rfl⟩) fun _ _ _ _ _ z => z
end Tr
open PySem PySem.W PyProof.Rows
set_option maxRecDepth 100000 in
set_option maxHeartbeats 0 in
theorem PySem.Challenge.cw_branchdepth_k75_texts_of_no_polynomial_holds : PySem.Challenge.rw_branchdepth_k75_texts_of_no_polynomial.Holds := by
  w_on; o_law; k_head; (case hw => w_witness2)
  k_fill
  refine Tr.walk (l := PySem.Challenge.rw_branchdepth_k75_texts_of_no_polynomial) rfl rfl (fun w h Y => PySem.W.kIn_of Y) ?F
  case F =>
    intro w mg fa h KX G hmg
    refine' Tr.all_mk KX G hmg ?a14 ?l14 ?c14 ?k14 ?a15 ?l15 ?c15 ?k15 ?a16 ?l16 ?c16 ?k16 ?a17 ?l17 ?c17 ?k17 ?a18 ?l18 ?c18 ?k18 ?a19 ?l19 ?c19 ?k19 ?a20 ?l20 ?c20 ?k20 ?a21 ?l21 ?c21 ?k21 ?a23 ?l23 ?c23 ?k23 ?a24 ?l24 ?c24 ?k24 ?a25 ?l25 ?c25 ?k25 ?a26 ?l26 ?c26 ?k26 ?a27 ?l27 ?c27 ?k27 ?a28 ?l28 ?c28 ?k28 ?a29 ?l29 ?c29 ?k29 ?a30 ?l30 ?c30 ?k30 ?a31 ?l31 ?c31 ?k31 ?a32 ?l32 ?c32 ?k32 ?a33 ?l33 ?c33 ?k33 ?a11 ?a12 ?a13 ?z_ValueError ?z_abs ?z_all ?z_int ?z_isinstance ?z_len ?z_max ?z_min ?z_range ?z_str ?ea_BranchError ?ea_NoPolynomial ?ea_NoPrime ?ea_NoRow ?ea_NoSize ?ea_NoText ?ea_NoTower ?ea_NotPlain ?ea_TooDeep ?ex_NoText ?ek_NoText ?es_NoText ?ey_NoText ?eg_NoText ?eh_NoText ?ed_NoText ?ec_NoText ?em_NoText ?eq_NoText_BranchError ?e_n ?e_t ?ki_NoText_BranchError ?ki_NoText_NoPolynomial ?ki_NoText_NoPrime ?ki_NoText_NoRow ?ki_NoText_NoSize ?ki_NoText_NoText ?ki_NoText_NoTower ?ki_NoText_NotPlain ?ki_NoText_TooDeep ?kt_NoText_ValueError
    (case a14 => k_is)
    (case l14 => k_is)
    (case c14 => k_is)
    (case k14 => k_is)
    (case a15 => k_is)
    (case l15 => k_is)
    (case c15 => k_is)
    (case k15 => k_is)
    (case a16 => k_is)
    (case l16 => k_is)
    (case c16 => k_is)
    (case k16 => k_is)
    (case a17 => k_is)
    (case l17 => k_is)
    (case c17 => k_is)
    (case k17 => k_is)
    (case a18 => k_is)
    (case l18 => k_is)
    (case c18 => k_is)
    (case k18 => k_is)
    (case a19 => k_is)
    (case l19 => k_is)
    (case c19 => k_is)
    (case k19 => k_is)
    (case a20 => k_is)
    (case l20 => k_is)
    (case c20 => k_is)
    (case k20 => k_is)
    (case a21 => k_is)
    (case l21 => k_is)
    (case c21 => k_is)
    (case k21 => k_is)
    (case a23 => k_is)
    (case l23 => k_is)
    (case c23 => k_is)
    (case k23 => k_is)
    (case a24 => k_is)
    (case l24 => k_is)
    (case c24 => k_is)
    (case k24 => k_is)
    (case a25 => k_is)
    (case l25 => k_is)
    (case c25 => k_is)
    (case k25 => k_is)
    (case a26 => k_is)
    (case l26 => k_is)
    (case c26 => k_is)
    (case k26 => k_is)
    (case a27 => k_is)
    (case l27 => k_is)
    (case c27 => k_is)
    (case k27 => k_is)
    (case a28 => k_is)
    (case l28 => k_is)
    (case c28 => k_is)
    (case k28 => k_is)
    (case a29 => k_is)
    (case l29 => k_is)
    (case c29 => k_is)
    (case k29 => k_is)
    (case a30 => k_is)
    (case l30 => k_is)
    (case c30 => k_is)
    (case k30 => k_is)
    (case a31 => k_is)
    (case l31 => k_is)
    (case c31 => k_is)
    (case k31 => k_is)
    (case a32 => k_is)
    (case l32 => k_is)
    (case c32 => k_is)
    (case k32 => k_is)
    (case a33 => k_is)
    (case l33 => k_is)
    (case c33 => k_is)
    (case k33 => k_is)
    (case a11 => k_is)
    (case a12 => k_is)
    (case a13 => k_is)
    (case z_ValueError => k_is)
    (case z_abs => k_is)
    (case z_all => k_is)
    (case z_int => k_is)
    (case z_isinstance => k_is)
    (case z_len => k_is)
    (case z_max => k_is)
    (case z_min => k_is)
    (case z_range => k_is)
    (case z_str => k_is)
    (case ea_BranchError => k_is)
    (case ea_NoPolynomial => k_is)
    (case ea_NoPrime => k_is)
    (case ea_NoRow => k_is)
    (case ea_NoSize => k_is)
    (case ea_NoText => k_is)
    (case ea_NoTower => k_is)
    (case ea_NotPlain => k_is)
    (case ea_TooDeep => k_is)
    (case ek_NoText => k_is)
    (case es_NoText => k_is)
    (case ey_NoText => k_is)
    (case eg_NoText => k_is)
    (case eh_NoText => k_is)
    (case ed_NoText => k_is)
    (case ec_NoText => k_is)
    (case em_NoText => k_is)
    (case eq_NoText_BranchError => kts_exm)
    (case e_n => k_is)
    (case e_t => k_is)
    (case ki_NoText_BranchError => kit_is)
    (case ki_NoText_NoPolynomial => kit_is)
    (case ki_NoText_NoPrime => kit_is)
    (case ki_NoText_NoRow => kit_is)
    (case ki_NoText_NoSize => kit_is)
    (case ki_NoText_NoText => kit_is)
    (case ki_NoText_NoTower => kit_is)
    (case ki_NoText_NotPlain => kit_is)
    (case ki_NoText_TooDeep => kit_is)
    (case kt_NoText_ValueError => kit_is)
    (case ex_NoText => k_exc)

